import PyProof.Rows.All
import Wide.All
import OpenK.AllK
import Wide.FinOn
import KE.KStateDown
import Lean
import HandS.ForMost
import HandS.Defaults
import HandS.NoneIn
import HandS.IsInst
import HandS.Walk
import HandS.Head0
import HandS.Head1
import HandS.Head2
import HandS.HeadEnd
import HandS.HeadHook1
import HandS.HeadHook2
import PySem.Challenge.RW_mobileair_k69_whole_switch
set_option Elab.async false
set_option linter.all false
set_option maxRecDepth 100000
set_option maxHeartbeats 4000000
/-! The mathematics: a net of calls, the facts of persons, the events as functions, what stays true. -/
namespace Mob
open PySem

inductive Stg where | looking | offered | ringing | answered | active deriving DecidableEq
def Stg.s : Stg → Str
  | .looking => "looking" | .offered => "offered" | .ringing => "ringing" | .answered => "answered" | .active => "active"
inductive Kd where | al | bu | un | ur deriving DecidableEq
def Kd.s : Kd → Str
  | .al => "always" | .bu => "busy" | .un => "unanswered" | .ur => "unreachable"
structure CallR where
  caller : Int
  called : Option Int
  st : Stg
  hops : Int
  since : Int
  line : Option Nat
structure LineR where
  caller : Int
  called : Int
  began : Int
  fin : Option (Int × Int)
structure Fct where
  al : Option Str
  bu : Option Str
  un : Option Str
  ur : Option Str
  ar : Option Int
def Fct.fw (f : Fct) : Kd → Option Str
  | .al => f.al | .bu => f.bu | .un => f.un | .ur => f.ur
def Fct.setFw (f : Fct) (k : Kd) (x : Option Str) : Fct := match k with
  | .al => { f with al := x } | .bu => { f with bu := x } | .un => { f with un := x } | .ur => { f with ur := x }
def fct0 : Fct := ⟨none, none, none, none, none⟩

/-! ### goals -/
def rule (f : Fct) (i caller : Int) (busy : List Int) : Option Kd × Int :=
  if f.al.isSome then (some .al, 0) else if i = caller ∨ i ∈ busy then (some .bu, 17) else if f.ar.isNone then (some .ur, 20) else (none, 0)
def ixOf (nums : List Str) (x : Str) : Option Nat := nums.findIdx? fun y => decide (y = x)
def goalN (nums : List Str) (fs : List Fct) (caller : Int) (busy : List Int) : Nat → Str → Int → Option Int × Int × Int
  | 0, _, h => (none, 31, h)
  | f + 1, num, h => match ixOf nums num with
    | none => (none, 1, h)
    | some i => match rule (fs.getD i fct0) (i : Int) caller busy with
      | (none, _) => (some (i : Int), 0, h)
      | (some k, c) => match (fs.getD i fct0).fw k with
        | none => (none, c, h)
        | some num' => if 2 ≤ h then (none, 31, h) else goalN nums fs caller busy f num' (h + 1)

theorem ixOf_lt {nums : List Str} {x : Str} {i : Nat} (h : ixOf nums x = some i) : i < nums.length := by
  unfold ixOf at h
  exact (List.findIdx?_eq_some_iff_getElem.mp h).1

theorem goalN_some {nums : List Str} {fs : List Fct} {caller : Int} {busy : List Int} : ∀ {f : Nat} {num : Str} {h : Int} {g c h' : Int}, goalN nums fs caller busy f num h = (some g, c, h') →
    0 ≤ g ∧ g < nums.length ∧ g ≠ caller ∧ ¬ g ∈ busy ∧ h ≤ h'
  | 0, _, _, _, _, _, e => by simp [goalN] at e
  | f + 1, num, h, g, c, h', e => by
    unfold goalN at e
    cases hi : ixOf nums num with
    | none => simp [hi] at e
    | some i =>
      simp only [hi] at e
      cases hr : rule (fs.getD i fct0) (i : Int) caller busy with
      | mk k c0 =>
        simp only [hr] at e
        cases k with
        | none =>
          simp only [Prod.mk.injEq, Option.some.injEq] at e
          obtain ⟨rfl, _, rfl⟩ := e
          unfold rule at hr
          have := ixOf_lt hi
          split at hr
          · simp at hr
          · split at hr
            · simp at hr
            · rename_i hn
              rw [not_or] at hn
              exact ⟨by omega, by omega, hn.1, hn.2, Int.le_refl _⟩
        | some k =>
          simp only at e
          cases hf : (fs.getD i fct0).fw k with
          | none =>
            rw [hf] at e
            cases e
          | some num' =>
            simp only [hf] at e
            split at e
            · simp at e
            · obtain ⟨h1, h2, h3, h4, h5⟩ := goalN_some e
              exact ⟨h1, h2, h3, h4, by omega⟩

/-! ### the net -/
def sideB (p : Int) (r : CallR) : Bool := decide (p = r.caller) || decide (some p = r.called)
def findC (cs : List CallR) (p : Int) : Option CallR := cs.find? (sideB p)
def sidesI (cs : List CallR) : List Int := cs.flatMap fun r => r.caller :: r.called.toList
def legB (cs : List CallR) (p : Int) : Bool := match findC cs p with
  | none => false
  | some r => decide (p = r.caller) || decide (r.st ≠ .looking)
def updC (cs : List CallR) (c : Int) (r' : CallR) : List CallR := cs.map fun x => if x.caller = c then r' else x
def dropC (cs : List CallR) (c : Int) : List CallR := cs.filter fun x => decide (x.caller ≠ c)
def otherI (r : CallR) (p : Int) : Option Int := if p = r.caller then r.called else some r.caller
def endL (ls : List LineR) (i : Nat) (tick cause : Int) : List LineR := ls.modify i fun l => { l with fin := some (tick, cause) }
def dropL (ls : List LineR) (r : CallR) (tick cause : Int) : List LineR := match r.line with
  | none => ls
  | some i => endL ls i tick cause

/-! ### actions -/
def tellD (p : Int) (m : PyData) : PyData := .tuple [.str "tell", .int p, m]
def relD (p : Int) : PyData := .tuple [.str "release", .int p]
def pageD (p : Int) : PyData := .tuple [.str "page", .int p]
def unpageD (p : Int) : PyData := .tuple [.str "unpage", .int p]
def refuseD (p c : Int) : List PyData := [tellD p (.tuple [.str "disconnect", .int c]), relD p]

structure Env0 where
  nums : List Str
  fs : List Fct

structure Net where
  cs : List CallR
  ls : List LineR

def mStart (E : Env0) (N : Net) (p : Int) (num : Str) (linked : List Int) : List PyData × Net :=
  if (findC N.cs p).isSome then (refuseD p 17, N) else
  match goalN E.nums E.fs p (sidesI N.cs ++ linked) 4 num 0 with
  | (none, c, _) => (refuseD p c, N)
  | (some g, _, h) => ([tellD p (.tuple [.str "proceeding"]), pageD g], { N with cs := N.cs ++ [⟨p, some g, .looking, h, 0, none⟩] })
def mAnswered (E : Env0) (N : Net) (p tick : Int) : List PyData × Net := match findC N.cs p with
  | none => ([], N)
  | some r => if r.called = some p ∧ r.st = .looking then ([tellD p (.tuple [.str "setup", .str (E.nums.getD r.caller.toNat Str.empty)])], { N with cs := updC N.cs r.caller { r with st := .offered, since := tick } }) else ([], N)
def mAlerting (N : Net) (p : Int) : List PyData × Net := match findC N.cs p with
  | none => ([], N)
  | some r => if r.called = some p ∧ r.st = .offered then ([tellD r.caller (.tuple [.str "alerting"])], { N with cs := updC N.cs r.caller { r with st := .ringing } }) else ([], N)
def mConnect (N : Net) (p : Int) : List PyData × Net := match findC N.cs p with
  | none => ([], N)
  | some r => if r.called = some p ∧ (r.st = .offered ∨ r.st = .ringing) then ([tellD p (.tuple [.str "connect done"]), tellD r.caller (.tuple [.str "connect"])], { N with cs := updC N.cs r.caller { r with st := .answered } }) else ([], N)
def mConnected (N : Net) (p tick : Int) : List PyData × Net := match findC N.cs p with
  | none => ([], N)
  | some r => if r.caller = p ∧ r.st = .answered then ([], ⟨updC N.cs r.caller { r with st := .active, line := some N.ls.length }, N.ls ++ [⟨r.caller, r.called.getD 0, tick, none⟩]⟩) else ([], N)
def mWord (N : Net) (p : Int) (w : PyData) : List PyData × Net := match findC N.cs p with
  | none => ([], N)
  | some r => if r.st = .answered ∨ r.st = .active then ([tellD ((otherI r p).getD 0) (.tuple [.str "word", w])], N) else ([], N)
def clearD (r : CallR) (q c : Int) : List PyData := if some q = r.called ∧ r.st = .looking then [unpageD q] else refuseD q c
def mLeave (N : Net) (p cause tick : Int) : List PyData × Net := match findC N.cs p with
  | none => ([], N)
  | some r => if p = r.caller ∨ r.st ≠ .looking then (clearD r ((otherI r p).getD 0) cause, ⟨dropC N.cs r.caller, dropL N.ls r tick cause⟩) else ([], N)
def mNotReached (E : Env0) (N : Net) (r : CallR) (k : Kd) (cause : Int) (linked : List Int) : List PyData × Net :=
  match (E.fs.getD (r.called.getD 0).toNat fct0).fw k with
  | none => (refuseD r.caller cause, { N with cs := dropC N.cs r.caller })
  | some num => if 2 ≤ r.hops then (refuseD r.caller 31, { N with cs := dropC N.cs r.caller }) else
    match goalN E.nums E.fs r.caller (sidesI (updC N.cs r.caller { r with called := none }) ++ linked) 4 num (r.hops + 1) with
    | (none, c, _) => (refuseD r.caller c, { N with cs := dropC N.cs r.caller })
    | (some g, _, h) => ([pageD g], { N with cs := updC N.cs r.caller { r with called := some g, st := .looking, hops := h } })
def mFailed (E : Env0) (N : Net) (p : Int) (linked : List Int) : List PyData × Net := match findC N.cs p with
  | none => ([], N)
  | some r => if r.called = some p ∧ r.st = .looking then mNotReached E N r .ur 18 linked else ([], N)
def dueB (tick : Int) (r : CallR) : Bool := (decide (r.st = .offered) || decide (r.st = .ringing)) && decide (16 ≤ tick - r.since)
def stepTurn (E : Env0) (linked : List Int) (tick : Int) (an : List PyData × Net) (r : CallR) : List PyData × Net :=
  if dueB tick r = true then
    let b := mNotReached E an.2 r .un 19 linked
    (an.1 ++ b.1 ++ refuseD (r.called.getD 0) 19, b.2)
  else an
def mStep (E : Env0) (N : Net) (linked : List Int) (tick : Int) : List PyData × Net := N.cs.foldl (stepTurn E linked tick) ([], N)

/-! ### what stays true -/
structure Inv0 (n : Nat) (N : Net) : Prop where
  caller : ∀ r ∈ N.cs, 0 ≤ r.caller ∧ r.caller < n
  called : ∀ r ∈ N.cs, ∃ g, r.called = some g ∧ 0 ≤ g ∧ g < n
  nd : (sidesI N.cs).Nodup
  line : ∀ r ∈ N.cs, ∀ i, r.line = some i → r.st = .active ∧ ∃ l, N.ls[i]? = some l ∧ l.fin = none
  lnd : (N.cs.filterMap (·.line)).Nodup
  hops : ∀ r ∈ N.cs, 0 ≤ r.hops

theorem sidesI_cons (r : CallR) (cs : List CallR) : sidesI (r :: cs) = r.caller :: (r.called.toList ++ sidesI cs) := by
  simp [sidesI]
theorem sidesI_append (a b : List CallR) : sidesI (a ++ b) = sidesI a ++ sidesI b := by
  simp [sidesI]
theorem mem_sides_caller {cs : List CallR} {r : CallR} (h : r ∈ cs) : r.caller ∈ sidesI cs := by
  unfold sidesI
  exact List.mem_flatMap.mpr ⟨r, h, List.mem_cons_self⟩
theorem mem_sides_called {cs : List CallR} {r : CallR} {g : Int} (h : r ∈ cs) (hg : r.called = some g) : g ∈ sidesI cs := by
  unfold sidesI
  refine List.mem_flatMap.mpr ⟨r, h, ?_⟩
  rw [hg]
  exact List.mem_cons_of_mem _ (by simp)
theorem mem_sides_iff {cs : List CallR} {p : Int} : p ∈ sidesI cs ↔ ∃ r ∈ cs, sideB p r = true := by
  unfold sidesI
  rw [List.mem_flatMap]
  constructor
  · rintro ⟨r, hr, h⟩
    refine ⟨r, hr, ?_⟩
    unfold sideB
    rcases List.mem_cons.mp h with h | h
    · simp [h]
    · cases hc : r.called with
      | none => rw [hc] at h; simp at h
      | some g =>
        rw [hc] at h
        simp at h
        simp [h]
  · rintro ⟨r, hr, h⟩
    refine ⟨r, hr, ?_⟩
    unfold sideB at h
    simp only [Bool.or_eq_true, decide_eq_true_eq] at h
    rcases h with h | h
    · rw [h]; exact List.mem_cons_self
    · rw [← h]; simp
theorem findC_none {cs : List CallR} {p : Int} (h : findC cs p = none) : ¬ p ∈ sidesI cs := by
  rw [mem_sides_iff]
  rintro ⟨r, hr, hs⟩
  exact absurd hs (by simpa using (List.find?_eq_none.mp h) r hr)
theorem findC_mem {cs : List CallR} {p : Int} {r : CallR} (h : findC cs p = some r) : r ∈ cs := List.mem_of_find?_eq_some h
theorem findC_side {cs : List CallR} {p : Int} {r : CallR} (h : findC cs p = some r) : sideB p r = true := List.find?_some h
/-- two calls that share a side are one -/
theorem side_one : ∀ {cs : List CallR} {p : Int} {r r' : CallR}, (sidesI cs).Nodup → r ∈ cs → r' ∈ cs → sideB p r = true → sideB p r' = true → r = r'
  | [], _, _, _, _, h, _, _, _ => by simp at h
  | x :: cs, p, r, r', hn, h, h', hs, hs' => by
    rw [sidesI_cons, ← List.cons_append, List.nodup_append] at hn
    obtain ⟨_, hn2, hd⟩ := hn
    have key : ∀ q, sideB p x = true → q ∈ cs → sideB p q = true → False := fun q hx hq hqs => by
      have m1 : p ∈ x.caller :: x.called.toList := by
        unfold sideB at hx
        simp only [Bool.or_eq_true, decide_eq_true_eq] at hx
        rcases hx with e | e
        · rw [e]; exact List.mem_cons_self
        · rw [← e]; simp
      exact hd p m1 p (mem_sides_iff.mpr ⟨q, hq, hqs⟩) rfl
    rcases List.mem_cons.mp h with e | h
    · rcases List.mem_cons.mp h' with e' | h'
      · rw [e, e']
      · exact (key r' (e ▸ hs) h' hs').elim
    · rcases List.mem_cons.mp h' with e' | h'
      · exact (key r (e' ▸ hs') h hs).elim
      · exact side_one hn2 h h' hs hs'
theorem findC_of {cs : List CallR} {p : Int} {r : CallR} (hn : (sidesI cs).Nodup) (h : r ∈ cs) (hs : sideB p r = true) : findC cs p = some r := by
  cases e : findC cs p with
  | none => exact (findC_none e (mem_sides_iff.mpr ⟨r, h, hs⟩)).elim
  | some r' => rw [side_one hn h (findC_mem e) hs (findC_side e)]
theorem caller_one {cs : List CallR} {r r' : CallR} (hn : (sidesI cs).Nodup) (h : r ∈ cs) (h' : r' ∈ cs) (e : r'.caller = r.caller) : r' = r :=
  side_one (p := r.caller) hn h' h (by unfold sideB; rw [e]; simp) (by unfold sideB; simp)

/-- taken apart at one call -/
theorem cut_at {cs : List CallR} {r : CallR} (hn : (sidesI cs).Nodup) (h : r ∈ cs) : ∃ pre post, cs = pre ++ r :: post ∧ (∀ x ∈ pre, x.caller ≠ r.caller) ∧ (∀ x ∈ post, x.caller ≠ r.caller) := by
  obtain ⟨pre, post, rfl⟩ := List.append_of_mem h
  refine ⟨pre, post, rfl, fun x hx e => ?_, fun x hx e => ?_⟩
  · rw [sidesI_append, List.nodup_append] at hn
    exact hn.2.2 x.caller (mem_sides_caller hx) r.caller (mem_sides_caller List.mem_cons_self) e
  · rw [sidesI_append, List.nodup_append] at hn
    have h2 := hn.2.1
    rw [sidesI_cons, List.nodup_cons] at h2
    exact h2.1 (List.mem_append_right _ (e ▸ mem_sides_caller hx))
theorem map_id_of {α : Type} {f : α → α} : ∀ {l : List α}, (∀ x ∈ l, f x = x) → l.map f = l
  | [], _ => rfl
  | a :: l, h => by rw [List.map_cons, h a List.mem_cons_self, map_id_of fun x hx => h x (List.mem_cons_of_mem _ hx)]
theorem updC_cut {pre post : List CallR} {r r' : CallR} (h1 : ∀ x ∈ pre, x.caller ≠ r.caller) (h2 : ∀ x ∈ post, x.caller ≠ r.caller) : updC (pre ++ r :: post) r.caller r' = pre ++ r' :: post := by
  unfold updC
  rw [List.map_append, List.map_cons, if_pos rfl, map_id_of fun x hx => if_neg (h1 x hx), map_id_of fun x hx => if_neg (h2 x hx)]
theorem dropC_cut {pre post : List CallR} {r : CallR} (h1 : ∀ x ∈ pre, x.caller ≠ r.caller) (h2 : ∀ x ∈ post, x.caller ≠ r.caller) : dropC (pre ++ r :: post) r.caller = pre ++ post := by
  unfold dropC
  rw [List.filter_append, List.filter_cons, if_neg (by simp), List.filter_eq_self.mpr fun x hx => by simpa using h1 x hx, List.filter_eq_self.mpr fun x hx => by simpa using h2 x hx]
end Mob

set_option Elab.async false
set_option linter.all false
set_option maxRecDepth 100000
set_option maxHeartbeats 4000000
namespace Mob
open PySem

theorem mem_cut {α : Type} {pre post : List α} {r x : α} : x ∈ pre ++ r :: post ↔ x ∈ pre ∨ x = r ∨ x ∈ post := by
  rw [List.mem_append, List.mem_cons]
theorem lnd_cut {pre post : List CallR} {r : CallR} : ((pre ++ r :: post).filterMap (·.line)) = pre.filterMap (·.line) ++ (r.line.toList ++ post.filterMap (·.line)) := by
  rw [List.filterMap_append, List.filterMap_cons]
  cases r.line <;> rfl
theorem sides_cut {pre post : List CallR} {r : CallR} : sidesI (pre ++ r :: post) = sidesI pre ++ r.caller :: (r.called.toList ++ sidesI post) := by
  rw [sidesI_append, sidesI_cons]

/-- a call changed in place, its sides and its line as they were -/
theorem Inv0.upd_same {n : Nat} {N : Net} {r r' : CallR} (I : Inv0 n N) (h : r ∈ N.cs) (e1 : r'.caller = r.caller) (e2 : r'.called = r.called) (e3 : r.line = none) (e4 : r'.line = none) (e5 : 0 ≤ r'.hops) :
    Inv0 n { N with cs := updC N.cs r.caller r' } := by
  obtain ⟨pre, post, e, h1, h2⟩ := cut_at I.nd h
  have eu : updC N.cs r.caller r' = pre ++ r' :: post := by rw [e, updC_cut h1 h2]
  have old : ∀ x, x ∈ pre ∨ x ∈ post → x ∈ N.cs := fun x hx => by
    rw [e, mem_cut]
    rcases hx with hx | hx
    · exact .inl hx
    · exact .inr (.inr hx)
  constructor
  · intro x hx
    simp only [eu, mem_cut] at hx
    rcases hx with hx | rfl | hx
    · exact I.caller x (old x (.inl hx))
    · rw [e1]; exact I.caller r h
    · exact I.caller x (old x (.inr hx))
  · intro x hx
    simp only [eu, mem_cut] at hx
    rcases hx with hx | rfl | hx
    · exact I.called x (old x (.inl hx))
    · rw [e2]; exact I.called r h
    · exact I.called x (old x (.inr hx))
  · have := I.nd
    rw [e, sides_cut] at this
    simp only [eu]
    rw [sides_cut, e1, e2]
    exact this
  · intro x hx i hi
    simp only [eu, mem_cut] at hx
    rcases hx with hx | rfl | hx
    · exact I.line x (old x (.inl hx)) i hi
    · rw [e4] at hi; cases hi
    · exact I.line x (old x (.inr hx)) i hi
  · have := I.lnd
    rw [e, lnd_cut, e3] at this
    simp only [eu]
    rw [lnd_cut, e4]
    exact this
  · intro x hx
    simp only [eu, mem_cut] at hx
    rcases hx with hx | rfl | hx
    · exact I.hops x (old x (.inl hx))
    · exact e5
    · exact I.hops x (old x (.inr hx))

/-- a call that has no line is dropped -/
theorem Inv0.drop0 {n : Nat} {N : Net} {r : CallR} (I : Inv0 n N) (h : r ∈ N.cs) : Inv0 n { N with cs := dropC N.cs r.caller } := by
  obtain ⟨pre, post, e, h1, h2⟩ := cut_at I.nd h
  have eu : dropC N.cs r.caller = pre ++ post := by rw [e, dropC_cut h1 h2]
  have old : ∀ x, x ∈ pre ++ post → x ∈ N.cs := fun x hx => by
    rw [e, mem_cut]
    rcases List.mem_append.mp hx with hx | hx
    · exact .inl hx
    · exact .inr (.inr hx)
  constructor
  · intro x hx
    simp only [eu] at hx
    exact I.caller x (old x hx)
  · intro x hx
    simp only [eu] at hx
    exact I.called x (old x hx)
  · have := I.nd
    rw [e, sides_cut] at this
    simp only [eu]
    rw [sidesI_append]
    refine this.sublist ?_
    refine List.Sublist.append (List.Sublist.refl _) ?_
    exact (List.sublist_append_right (r.caller :: r.called.toList) (sidesI post))
  · intro x hx i hi
    simp only [eu] at hx
    exact I.line x (old x hx) i hi
  · have := I.lnd
    rw [e, lnd_cut] at this
    simp only [eu]
    rw [List.filterMap_append]
    refine this.sublist ?_
    exact List.Sublist.append (List.Sublist.refl _) (List.sublist_append_right _ _)
  · intro x hx
    simp only [eu] at hx
    exact I.hops x (old x hx)

/-- a call is dropped, its line ends -/
theorem Inv0.drop {n : Nat} {N : Net} {r : CallR} (I : Inv0 n N) (h : r ∈ N.cs) (t c : Int) : Inv0 n ⟨dropC N.cs r.caller, dropL N.ls r t c⟩ := by
  have J := I.drop0 h
  cases el : r.line with
  | none =>
    have : dropL N.ls r t c = N.ls := by unfold dropL; rw [el]
    rw [this]
    exact J
  | some i =>
    have ed : dropL N.ls r t c = endL N.ls i t c := by unfold dropL; rw [el]
    rw [ed]
    refine ⟨J.caller, J.called, J.nd, fun x hx j hj => ?_, J.lnd, J.hops⟩
    obtain ⟨ha, l, hl, hf⟩ := J.line x hx j hj
    refine ⟨ha, l, ?_, hf⟩
    have hij : i ≠ j := by
      rintro rfl
      obtain ⟨pre, post, e, h1, h2⟩ := cut_at I.nd h
      have eu : dropC N.cs r.caller = pre ++ post := by rw [e, dropC_cut h1 h2]
      have := I.lnd
      rw [e, lnd_cut, el, List.nodup_append] at this
      simp only [eu] at hx
      rcases List.mem_append.mp hx with hx | hx
      · exact this.2.2 i (List.mem_filterMap.mpr ⟨x, hx, hj⟩) i (by simp) rfl
      · have h3 := this.2.1
        simp only [Option.toList_some, List.singleton_append, List.nodup_cons] at h3
        exact h3.1 (List.mem_filterMap.mpr ⟨x, hx, hj⟩)
    show (endL N.ls i t c)[j]? = some l
    unfold endL
    have hl' : N.ls[j]? = some l := hl
    rw [List.getElem?_modify, hl']
    simp [hij]

/-- a call that was answered becomes active -/
theorem Inv0.active {n : Nat} {N : Net} {r : CallR} (I : Inv0 n N) (h : r ∈ N.cs) (e3 : r.line = none) (l : LineR) (hl : l.fin = none) :
    Inv0 n ⟨updC N.cs r.caller { r with st := .active, line := some N.ls.length }, N.ls ++ [l]⟩ := by
  obtain ⟨pre, post, e, h1, h2⟩ := cut_at I.nd h
  have eu : updC N.cs r.caller { r with st := .active, line := some N.ls.length } = pre ++ { r with st := .active, line := some N.ls.length } :: post := by rw [e, updC_cut h1 h2]
  have old : ∀ x, x ∈ pre ∨ x ∈ post → x ∈ N.cs := fun x hx => by
    rw [e, mem_cut]
    rcases hx with hx | hx
    · exact .inl hx
    · exact .inr (.inr hx)
  have lines : ∀ x, x ∈ N.cs → ∀ i, x.line = some i → i < N.ls.length := fun x hx i hi => by
    obtain ⟨_, l, hl, _⟩ := I.line x hx i hi
    exact (List.getElem?_eq_some_iff.mp hl).1
  have keep : ∀ x, x ∈ N.cs → ∀ i, x.line = some i → x.st = .active ∧ ∃ q, (N.ls ++ [l])[i]? = some q ∧ q.fin = none := fun x hx i hi => by
    obtain ⟨ha, q, hq, hf⟩ := I.line x hx i hi
    exact ⟨ha, q, by rw [List.getElem?_append_left (lines x hx i hi)]; exact hq, hf⟩
  constructor
  · intro x hx
    simp only [eu, mem_cut] at hx
    rcases hx with hx | rfl | hx
    · exact I.caller x (old x (.inl hx))
    · exact I.caller r h
    · exact I.caller x (old x (.inr hx))
  · intro x hx
    simp only [eu, mem_cut] at hx
    rcases hx with hx | rfl | hx
    · exact I.called x (old x (.inl hx))
    · exact I.called r h
    · exact I.called x (old x (.inr hx))
  · have := I.nd
    rw [e, sides_cut] at this
    simp only [eu]
    rw [sides_cut]
    exact this
  · intro x hx i hi
    simp only [eu, mem_cut] at hx
    rcases hx with hx | rfl | hx
    · exact keep x (old x (.inl hx)) i hi
    · cases hi
      exact ⟨rfl, l, by simp, hl⟩
    · exact keep x (old x (.inr hx)) i hi
  · have hnd := I.lnd
    rw [e, lnd_cut, e3] at hnd
    simp only [eu]
    rw [lnd_cut]
    simp only [Option.toList_none, List.nil_append, Option.toList_some, List.singleton_append] at hnd ⊢
    rw [List.nodup_append] at hnd ⊢
    refine ⟨hnd.1, List.nodup_cons.mpr ⟨fun hm => ?_, hnd.2.1⟩, fun a ha b hb => ?_⟩
    · obtain ⟨x, hx, hi⟩ := List.mem_filterMap.mp hm
      exact absurd (lines x (old x (.inr hx)) _ hi) (Nat.lt_irrefl _)
    · rcases List.mem_cons.mp hb with rfl | hb
      · obtain ⟨x, hx, hi⟩ := List.mem_filterMap.mp ha
        exact Nat.ne_of_lt (lines x (old x (.inl hx)) _ hi)
      · exact hnd.2.2 a ha b hb
  · intro x hx
    simp only [eu, mem_cut] at hx
    rcases hx with hx | rfl | hx
    · exact I.hops x (old x (.inl hx))
    · exact I.hops r h
    · exact I.hops x (old x (.inr hx))

theorem sides_upd_none {cs : List CallR} {r : CallR} {g : Int} (hn : (sidesI cs).Nodup) (h : r ∈ cs) (hg : r.called = some g) (x : Int) : x ∈ sidesI (updC cs r.caller { r with called := none }) ↔ x ∈ sidesI cs ∧ x ≠ g := by
  obtain ⟨pre, post, rfl, h1, h2⟩ := cut_at hn h
  rw [updC_cut h1 h2]
  simp only [sides_cut, hg, Option.toList_some, Option.toList_none, List.nil_append, List.singleton_append] at hn ⊢
  have h3 := List.nodup_append.mp hn
  have h4 := List.nodup_cons.mp h3.2.1
  have h5 := List.nodup_cons.mp h4.2
  simp only [List.mem_append, List.mem_cons]
  constructor
  · rintro (hx | rfl | hx)
    · exact ⟨.inl hx, h3.2.2 x hx g (by simp)⟩
    · exact ⟨.inr (.inl rfl), fun e => h4.1 (by rw [e]; simp)⟩
    · exact ⟨.inr (.inr (.inr hx)), fun e => h5.1 (by rw [← e]; exact hx)⟩
  · rintro ⟨hx | rfl | rfl | hx, hne⟩
    · exact .inl hx
    · exact .inr (.inl rfl)
    · exact absurd rfl hne
    · exact .inr (.inr hx)

/-- a called person is replaced -/
theorem Inv0.goal {n : Nat} {N : Net} {r : CallR} {g h' : Int} (I : Inv0 n N) (h : r ∈ N.cs) (e3 : r.line = none) (g0 : 0 ≤ g) (g1 : g < n) (gn : ¬ g ∈ sidesI (updC N.cs r.caller { r with called := none })) (e5 : 0 ≤ h') :
    Inv0 n { N with cs := updC N.cs r.caller { r with called := some g, st := .looking, hops := h' } } := by
  obtain ⟨pre, post, e, h1, h2⟩ := cut_at I.nd h
  have eu : updC N.cs r.caller { r with called := some g, st := .looking, hops := h' } = pre ++ { r with called := some g, st := .looking, hops := h' } :: post := by rw [e, updC_cut h1 h2]
  have en : updC N.cs r.caller { r with called := none } = pre ++ { r with called := none } :: post := by rw [e, updC_cut h1 h2]
  have old : ∀ x, x ∈ pre ∨ x ∈ post → x ∈ N.cs := fun x hx => by
    rw [e, mem_cut]
    rcases hx with hx | hx
    · exact .inl hx
    · exact .inr (.inr hx)
  constructor
  · intro x hx
    simp only [eu, mem_cut] at hx
    rcases hx with hx | rfl | hx
    · exact I.caller x (old x (.inl hx))
    · exact I.caller r h
    · exact I.caller x (old x (.inr hx))
  · intro x hx
    simp only [eu, mem_cut] at hx
    rcases hx with hx | rfl | hx
    · exact I.called x (old x (.inl hx))
    · exact ⟨g, rfl, g0, g1⟩
    · exact I.called x (old x (.inr hx))
  · have hnd := I.nd
    rw [e, sides_cut] at hnd
    rw [en, sides_cut] at gn
    simp only [eu]
    rw [sides_cut]
    simp only [Option.toList_none, List.nil_append, Option.toList_some, List.singleton_append] at gn ⊢
    simp only [List.mem_append, List.mem_cons, not_or] at gn
    rw [List.nodup_append] at hnd ⊢
    obtain ⟨n1, n2, n3⟩ := hnd
    rw [List.nodup_cons] at n2
    obtain ⟨n4, n5⟩ := n2
    have n6 := (List.nodup_append.mp n5).2.1
    refine ⟨n1, List.nodup_cons.mpr ⟨fun hm => ?_, List.nodup_cons.mpr ⟨gn.2.2, n6⟩⟩, fun a ha b hb => ?_⟩
    · rcases List.mem_cons.mp hm with q | q
      · exact gn.2.1 q.symm
      · exact n4 (List.mem_append_right _ q)
    · rcases List.mem_cons.mp hb with rfl | hb
      · exact n3 a ha _ List.mem_cons_self
      · rcases List.mem_cons.mp hb with rfl | hb
        · exact fun q => gn.1 (q ▸ ha)
        · exact n3 a ha b (List.mem_cons_of_mem _ (List.mem_append_right _ hb))
  · intro x hx i hi
    simp only [eu, mem_cut] at hx
    rcases hx with hx | rfl | hx
    · exact I.line x (old x (.inl hx)) i hi
    · have hi : r.line = some i := hi
      rw [e3] at hi; cases hi
    · exact I.line x (old x (.inr hx)) i hi
  · have := I.lnd
    rw [e, lnd_cut] at this
    simp only [eu]
    rw [lnd_cut]
    exact this
  · intro x hx
    simp only [eu, mem_cut] at hx
    rcases hx with hx | rfl | hx
    · exact I.hops x (old x (.inl hx))
    · exact e5
    · exact I.hops x (old x (.inr hx))

/-- a new call -/
theorem Inv0.add {n : Nat} {N : Net} {p g h' : Int} (I : Inv0 n N) (hp : ¬ p ∈ sidesI N.cs) (p0 : 0 ≤ p) (p1 : p < n) (g0 : 0 ≤ g) (g1 : g < n) (gp : g ≠ p) (gn : ¬ g ∈ sidesI N.cs) (e5 : 0 ≤ h') :
    Inv0 n { N with cs := N.cs ++ [⟨p, some g, .looking, h', 0, none⟩] } := by
  have new : ∀ x, x ∈ N.cs ++ [(⟨p, some g, .looking, h', 0, none⟩ : CallR)] → x ∈ N.cs ∨ x = ⟨p, some g, .looking, h', 0, none⟩ := fun x hx => by
    rcases List.mem_append.mp hx with hx | hx
    · exact .inl hx
    · exact .inr (List.mem_singleton.mp hx)
  constructor
  · intro x hx
    rcases new x hx with hx | rfl
    · exact I.caller x hx
    · exact ⟨p0, p1⟩
  · intro x hx
    rcases new x hx with hx | rfl
    · exact I.called x hx
    · exact ⟨g, rfl, g0, g1⟩
  · show (sidesI (N.cs ++ [_])).Nodup
    rw [sidesI_append, List.nodup_append]
    refine ⟨I.nd, ?_, fun a ha b hb => ?_⟩
    · simp [sidesI]
      exact fun e => gp e.symm
    · simp [sidesI] at hb
      rcases hb with rfl | rfl
      · exact fun q => hp (q ▸ ha)
      · exact fun q => gn (q ▸ ha)
  · intro x hx i hi
    rcases new x hx with hx | rfl
    · exact I.line x hx i hi
    · cases hi
  · show ((N.cs ++ [_]).filterMap CallR.line).Nodup
    rw [List.filterMap_append]
    simpa using I.lnd
  · intro x hx
    rcases new x hx with hx | rfl
    · exact I.hops x hx
    · exact e5
theorem inv_nil {n : Nat} : Inv0 n ⟨[], []⟩ := ⟨by simp, by simp, by simp [sidesI], by simp, by simp, by simp⟩
end Mob

set_option Elab.async false
set_option linter.all false
set_option maxRecDepth 100000
set_option maxHeartbeats 4000000
namespace Mob
open PySem
theorem line_none {n : Nat} {N : Net} (I : Inv0 n N) {r : CallR} (h : r ∈ N.cs) (hs : r.st ≠ .active) : r.line = none := by
  cases e : r.line with
  | none => rfl
  | some i => exact absurd (I.line r h i e).1 hs
theorem inv_notR {n : Nat} {E : Env0} {N : Net} (hn : E.nums.length = n) (I : Inv0 n N) {r : CallR} (h : r ∈ N.cs) (hl : r.line = none) (kd : Kd) (c : Int) (linked : List Int) : Inv0 n (mNotReached E N r kd c linked).2 := by
  unfold mNotReached
  split
  · exact I.drop0 h
  · split
    · exact I.drop0 h
    · split
      · exact I.drop0 h
      · rename_i g c0 h0 eg
        obtain ⟨g0, g1, g2, g3, g4⟩ := goalN_some eg
        rw [hn] at g1
        have := I.hops r h
        refine I.goal h hl g0 g1 (fun z => g3 (List.mem_append_left _ z)) (by omega)
theorem updC_len (cs : List CallR) (c : Int) (r : CallR) : (updC cs c r).length = cs.length := by unfold updC; rw [List.length_map]
theorem dropC_len (cs : List CallR) (c : Int) : (dropC cs c).length ≤ cs.length := List.length_filter_le _ _
theorem notR_len (E : Env0) (N : Net) (r : CallR) (kd : Kd) (c : Int) (linked : List Int) : (mNotReached E N r kd c linked).2.cs.length ≤ N.cs.length ∧ (mNotReached E N r kd c linked).1.length ≤ 2 := by
  unfold mNotReached
  split
  · exact ⟨dropC_len _ _, Nat.le_refl _⟩
  · split
    · exact ⟨dropC_len _ _, Nat.le_refl _⟩
    · split
      · exact ⟨dropC_len _ _, Nat.le_refl _⟩
      · exact ⟨Nat.le_of_eq (updC_len _ _ _), Nat.le_succ _⟩
theorem mNotReached_ls (E : Env0) (N : Net) (r : CallR) (kd : Kd) (c : Int) (linked : List Int) : (mNotReached E N r kd c linked).2.ls = N.ls := by
  unfold mNotReached
  split
  · rfl
  · split
    · rfl
    · split <;> rfl
/-- the calls of another caller stay -/
theorem notR_other {E : Env0} {N : Net} {r : CallR} {kd : Kd} {c : Int} {linked : List Int} {y : CallR} (hy : y ∈ N.cs) (hc : y.caller ≠ r.caller) : y ∈ (mNotReached E N r kd c linked).2.cs := by
  have h1 : y ∈ dropC N.cs r.caller := List.mem_filter.mpr ⟨hy, by simpa using hc⟩
  have h2 : ∀ r', y ∈ updC N.cs r.caller r' := fun r' => List.mem_map.mpr ⟨y, hy, if_neg hc⟩
  unfold mNotReached
  split
  · exact h1
  · split
    · exact h1
    · split
      · exact h1
      · exact h2 _
/-- a fold over the calls that were there at first: what holds behind each turn -/
structure StepOk (n : Nat) (cs0 : List CallR) (i : Nat) (an : List PyData × Net) (ls : List LineR) : Prop where
  inv : Inv0 n an.2
  rest : ∀ j, i ≤ j → ∀ y, cs0[j]? = some y → y ∈ an.2.cs
  len : an.2.cs.length ≤ cs0.length
  acts : an.1.length ≤ 4 * i
  ls : an.2.ls = ls
theorem dueB_st {t : Int} {r : CallR} (h : dueB t r = true) : r.st ≠ .active := by
  unfold dueB at h
  intro e
  rw [e] at h
  simp at h
theorem stepOk_turn {n : Nat} {E : Env0} {cs0 : List CallR} {i : Nat} {an : List PyData × Net} {ls : List LineR} (hn : E.nums.length = n) (hnd : (cs0.map CallR.caller).Nodup) (S : StepOk n cs0 i an ls) {r : CallR} (hr : cs0[i]? = some r) (linked : List Int) (t : Int) :
    StepOk n cs0 (i + 1) (stepTurn E linked t an r) ls := by
  unfold stepTurn
  by_cases hd : dueB t r = true
  · rw [if_pos hd]
    have hm := S.rest i (Nat.le_refl _) r hr
    have hl := line_none S.inv hm (dueB_st hd)
    refine ⟨inv_notR hn S.inv hm hl _ _ _, fun j hj y hy => notR_other (S.rest j (by omega) y hy) fun e => ?_, Nat.le_trans (notR_len _ _ _ _ _ _).1 S.len, ?_, by rw [mNotReached_ls]; exact S.ls⟩
    · have h1 : (cs0.map CallR.caller)[i]? = some r.caller := by rw [List.getElem?_map, hr]; rfl
      have h2 : (cs0.map CallR.caller)[j]? = some r.caller := by rw [List.getElem?_map, hy, ← e]; rfl
      obtain ⟨a1, a2⟩ := List.getElem?_eq_some_iff.mp h1
      obtain ⟨b1, b2⟩ := List.getElem?_eq_some_iff.mp h2
      have : i = j := (List.getElem_inj hnd).mp (a2.trans b2.symm)
      omega
    · have := (notR_len E an.2 r .un 19 linked).2
      have h4 := S.acts
      show (an.1 ++ _ ++ refuseD _ 19).length ≤ _
      rw [List.length_append, List.length_append]
      show _ + 2 ≤ _
      omega
  · rw [if_neg hd]
    exact ⟨S.inv, fun j hj y hy => S.rest j (by omega) y hy, S.len, Nat.le_trans S.acts (by omega), S.ls⟩
theorem stepOk_0 {n : Nat} {N : Net} (I : Inv0 n N) : StepOk n N.cs 0 ([], N) N.ls := ⟨I, fun _ _ y hy => List.mem_of_getElem? hy, Nat.le_refl _, Nat.le_refl _, rfl⟩
theorem callers_sub : ∀ cs : List CallR, (cs.map CallR.caller).Sublist (sidesI cs)
  | [] => List.Sublist.slnil
  | r :: cs => by
    rw [sidesI_cons, List.map_cons]
    exact ((callers_sub cs).trans (List.sublist_append_right _ _)).cons_cons _
theorem callers_nd {cs : List CallR} (h : (sidesI cs).Nodup) : (cs.map CallR.caller).Nodup := h.sublist (callers_sub cs)
theorem foldl_take {α β : Type} {f : β → α → β} {l : List α} {i : Nat} {x : α} {b : β} (h : l[i]? = some x) : (l.take (i + 1)).foldl f b = f ((l.take i).foldl f b) x := by
  rw [List.take_succ, h, List.foldl_append]
  rfl
theorem stepOk_all {n : Nat} {E : Env0} {N : Net} (hn : E.nums.length = n) (I : Inv0 n N) (linked : List Int) (t : Int) : ∀ i, i ≤ N.cs.length → StepOk n N.cs i ((N.cs.take i).foldl (stepTurn E linked t) ([], N)) N.ls
  | 0, _ => stepOk_0 I
  | i + 1, h => by
    have hi : N.cs[i]? = some N.cs[i] := List.getElem?_eq_getElem (by omega)
    rw [foldl_take hi]
    exact stepOk_turn hn (callers_nd I.nd) (stepOk_all hn I linked t i (by omega)) hi linked t
theorem inv_step {n : Nat} {E : Env0} {N : Net} (hn : E.nums.length = n) (I : Inv0 n N) (linked : List Int) (t : Int) : Inv0 n (mStep E N linked t).2 ∧ (mStep E N linked t).2.cs.length ≤ N.cs.length ∧ (mStep E N linked t).2.ls = N.ls := by
  have := stepOk_all hn I linked t N.cs.length (Nat.le_refl _)
  rw [List.take_length] at this
  exact ⟨this.inv, this.len, this.ls⟩

/-! ### every event keeps the invariant -/
theorem inv_start {n : Nat} {E : Env0} {N : Net} (hn : E.nums.length = n) (I : Inv0 n N) {p : Int} (p0 : 0 ≤ p) (p1 : p < n) (num : Str) (linked : List Int) : Inv0 n (mStart E N p num linked).2 ∧ (mStart E N p num linked).2.cs.length ≤ N.cs.length + 1 ∧ (mStart E N p num linked).2.ls = N.ls := by
  unfold mStart
  split
  · exact ⟨I, Nat.le_succ _, rfl⟩
  · rename_i hf
    split
    · exact ⟨I, Nat.le_succ _, rfl⟩
    · rename_i g c0 h0 eg
      obtain ⟨g0, g1, g2, g3, g4⟩ := goalN_some eg
      rw [hn] at g1
      have hnone : findC N.cs p = none := by
        cases e : findC N.cs p with
        | none => rfl
        | some r => rw [e] at hf; exact absurd rfl hf
      exact ⟨I.add (findC_none hnone) p0 p1 g0 g1 g2 (fun z => g3 (List.mem_append_left _ z)) g4, by simp, rfl⟩
theorem inv_answered {n : Nat} {E : Env0} {N : Net} (I : Inv0 n N) (p t : Int) : Inv0 n (mAnswered E N p t).2 ∧ (mAnswered E N p t).2.cs.length ≤ N.cs.length ∧ (mAnswered E N p t).2.ls = N.ls := by
  unfold mAnswered
  split
  · exact ⟨I, Nat.le_refl _, rfl⟩
  · rename_i r hr
    split
    · rename_i h
      have hm := findC_mem hr
      have hl : r.line = none := line_none I hm (by rw [h.2]; decide)
      exact ⟨I.upd_same hm rfl rfl hl hl (I.hops r hm), Nat.le_of_eq (updC_len _ _ _), rfl⟩
    · exact ⟨I, Nat.le_refl _, rfl⟩
theorem inv_alerting {n : Nat} {N : Net} (I : Inv0 n N) (p : Int) : Inv0 n (mAlerting N p).2 ∧ (mAlerting N p).2.cs.length ≤ N.cs.length ∧ (mAlerting N p).2.ls = N.ls := by
  unfold mAlerting
  split
  · exact ⟨I, Nat.le_refl _, rfl⟩
  · rename_i r hr
    split
    · rename_i h
      have hm := findC_mem hr
      have hl : r.line = none := line_none I hm (by rw [h.2]; decide)
      exact ⟨I.upd_same hm rfl rfl hl hl (I.hops r hm), Nat.le_of_eq (updC_len _ _ _), rfl⟩
    · exact ⟨I, Nat.le_refl _, rfl⟩
theorem inv_connect {n : Nat} {N : Net} (I : Inv0 n N) (p : Int) : Inv0 n (mConnect N p).2 ∧ (mConnect N p).2.cs.length ≤ N.cs.length ∧ (mConnect N p).2.ls = N.ls := by
  unfold mConnect
  split
  · exact ⟨I, Nat.le_refl _, rfl⟩
  · rename_i r hr
    split
    · rename_i h
      have hm := findC_mem hr
      have hl : r.line = none := line_none I hm (by rcases h.2 with q | q <;> rw [q] <;> decide)
      exact ⟨I.upd_same hm rfl rfl hl hl (I.hops r hm), Nat.le_of_eq (updC_len _ _ _), rfl⟩
    · exact ⟨I, Nat.le_refl _, rfl⟩
theorem inv_connected {n : Nat} {N : Net} (I : Inv0 n N) (p t : Int) : Inv0 n (mConnected N p t).2 ∧ (mConnected N p t).2.cs.length ≤ N.cs.length ∧ (mConnected N p t).2.ls.length ≤ N.ls.length + 1 := by
  unfold mConnected
  split
  · exact ⟨I, Nat.le_refl _, Nat.le_succ _⟩
  · rename_i r hr
    split
    · rename_i h
      have hm := findC_mem hr
      exact ⟨I.active hm (line_none I hm (by rw [h.2]; decide)) _ rfl, Nat.le_of_eq (updC_len _ _ _), by simp⟩
    · exact ⟨I, Nat.le_refl _, Nat.le_succ _⟩
theorem endL_len (ls : List LineR) (i : Nat) (t c : Int) : (endL ls i t c).length = ls.length := by unfold endL; rw [List.length_modify]
theorem dropL_len (ls : List LineR) (r : CallR) (t c : Int) : (dropL ls r t c).length = ls.length := by
  unfold dropL
  split
  · rfl
  · exact endL_len _ _ _ _
theorem inv_leave {n : Nat} {N : Net} (I : Inv0 n N) (p c t : Int) : Inv0 n (mLeave N p c t).2 ∧ (mLeave N p c t).2.cs.length ≤ N.cs.length ∧ (mLeave N p c t).2.ls.length = N.ls.length := by
  unfold mLeave
  split
  · exact ⟨I, Nat.le_refl _, rfl⟩
  · rename_i r hr
    split
    · exact ⟨I.drop (findC_mem hr) _ _, dropC_len _ _, dropL_len _ _ _ _⟩
    · exact ⟨I, Nat.le_refl _, rfl⟩
theorem inv_failed {n : Nat} {E : Env0} {N : Net} (hn : E.nums.length = n) (I : Inv0 n N) (p : Int) (linked : List Int) : Inv0 n (mFailed E N p linked).2 ∧ (mFailed E N p linked).2.cs.length ≤ N.cs.length ∧ (mFailed E N p linked).2.ls = N.ls := by
  unfold mFailed
  split
  · exact ⟨I, Nat.le_refl _, rfl⟩
  · rename_i r hr
    split
    · rename_i h
      have hm := findC_mem hr
      exact ⟨inv_notR hn I hm (line_none I hm (by rw [h.2]; decide)) _ _ _, (notR_len _ _ _ _ _ _).1, mNotReached_ls _ _ _ _ _ _⟩
    · exact ⟨I, Nat.le_refl _, rfl⟩
end Mob

set_option Elab.async false
set_option linter.all false
set_option maxRecDepth 100000
set_option maxHeartbeats 4000000
namespace Mob
open PySem PySem.Spec PyProof.Rows L2
def top (i : Nat) : Stmt := PySem.Challenge.pw_mobileair_k69_whole_switch.main.body.getD i (.Pass ⟨0, 0, 0, 0⟩)
abbrev s_Book_init : Stmt := inClass (top 6) 0
def d_Book_init : He.DefD := ⟨("Book", some "__init__"), "__init__", "Book.__init__", defArgs s_Book_init, defBody s_Book_init, defScope s_Book_init, [], []⟩
abbrev s_Book_begin : Stmt := inClass (top 6) 1
def d_Book_begin : He.DefD := ⟨("Book", some "begin"), "begin", "Book.begin", defArgs s_Book_begin, defBody s_Book_begin, defScope s_Book_begin, [], []⟩
abbrev s_Book_end : Stmt := inClass (top 6) 2
def d_Book_end : He.DefD := ⟨("Book", some "end"), "end", "Book.end", defArgs s_Book_end, defBody s_Book_end, defScope s_Book_end, [], []⟩
abbrev s_Book_lines : Stmt := inClass (top 6) 3
def d_Book_lines : He.DefD := ⟨("Book", some "lines"), "lines", "Book.lines", defArgs s_Book_lines, defBody s_Book_lines, defScope s_Book_lines, [], []⟩
abbrev s_rule_for : Stmt := top 10
def d_rule_for : He.DefD := ⟨("rule_for", none), "rule_for", "rule_for", defArgs s_rule_for, defBody s_rule_for, defScope s_rule_for, [], []⟩
abbrev s_find_goal : Stmt := top 11
def d_find_goal : He.DefD := ⟨("find_goal", none), "find_goal", "find_goal", defArgs s_find_goal, defBody s_find_goal, defScope s_find_goal, [], []⟩
abbrev s_Call_init : Stmt := inClass (top 13) 0
def d_Call_init : He.DefD := ⟨("Call", some "__init__"), "__init__", "Call.__init__", defArgs s_Call_init, defBody s_Call_init, defScope s_Call_init, [], []⟩
abbrev s_Call_other : Stmt := inClass (top 13) 1
def d_Call_other : He.DefD := ⟨("Call", some "other"), "other", "Call.other", defArgs s_Call_other, defBody s_Call_other, defScope s_Call_other, [], []⟩
abbrev s_refuse : Stmt := top 14
def d_refuse : He.DefD := ⟨("refuse", none), "refuse", "refuse", defArgs s_refuse, defBody s_refuse, defScope s_refuse, [], []⟩
abbrev s_Switch_init : Stmt := inClass (top 15) 0
def d_Switch_init : He.DefD := ⟨("Switch", some "__init__"), "__init__", "Switch.__init__", defArgs s_Switch_init, defBody s_Switch_init, defScope s_Switch_init, [], []⟩
abbrev s_Switch_find : Stmt := inClass (top 15) 1
def d_Switch_find : He.DefD := ⟨("Switch", some "find"), "find", "Switch.find", defArgs s_Switch_find, defBody s_Switch_find, defScope s_Switch_find, [], []⟩
abbrev s_Switch_called_in : Stmt := inClass (top 15) 2
def d_Switch_called_in : He.DefD := ⟨("Switch", some "called_in"), "called_in", "Switch.called_in", defArgs s_Switch_called_in, defBody s_Switch_called_in, defScope s_Switch_called_in, [], []⟩
abbrev s_Switch_sides : Stmt := inClass (top 15) 3
def d_Switch_sides : He.DefD := ⟨("Switch", some "sides"), "sides", "Switch.sides", defArgs s_Switch_sides, defBody s_Switch_sides, defScope s_Switch_sides, [], []⟩
abbrev s_Switch_calls : Stmt := inClass (top 15) 4
def d_Switch_calls : He.DefD := ⟨("Switch", some "calls"), "calls", "Switch.calls", defArgs s_Switch_calls, defBody s_Switch_calls, defScope s_Switch_calls, [], []⟩
abbrev s_Switch_call_of : Stmt := inClass (top 15) 5
def d_Switch_call_of : He.DefD := ⟨("Switch", some "call_of"), "call_of", "Switch.call_of", defArgs s_Switch_call_of, defBody s_Switch_call_of, defScope s_Switch_call_of, [], []⟩
abbrev s_Switch_is_leg : Stmt := inClass (top 15) 6
def d_Switch_is_leg : He.DefD := ⟨("Switch", some "is_leg"), "is_leg", "Switch.is_leg", defArgs s_Switch_is_leg, defBody s_Switch_is_leg, defScope s_Switch_is_leg, [], []⟩
abbrev s_Switch_start : Stmt := inClass (top 15) 7
def d_Switch_start : He.DefD := ⟨("Switch", some "start"), "start", "Switch.start", defArgs s_Switch_start, defBody s_Switch_start, defScope s_Switch_start, [], []⟩
abbrev s_Switch_answered : Stmt := inClass (top 15) 8
def d_Switch_answered : He.DefD := ⟨("Switch", some "answered"), "answered", "Switch.answered", defArgs s_Switch_answered, defBody s_Switch_answered, defScope s_Switch_answered, [], []⟩
abbrev s_Switch_alerting : Stmt := inClass (top 15) 9
def d_Switch_alerting : He.DefD := ⟨("Switch", some "alerting"), "alerting", "Switch.alerting", defArgs s_Switch_alerting, defBody s_Switch_alerting, defScope s_Switch_alerting, [], []⟩
abbrev s_Switch_connect : Stmt := inClass (top 15) 10
def d_Switch_connect : He.DefD := ⟨("Switch", some "connect"), "connect", "Switch.connect", defArgs s_Switch_connect, defBody s_Switch_connect, defScope s_Switch_connect, [], []⟩
abbrev s_Switch_connected : Stmt := inClass (top 15) 11
def d_Switch_connected : He.DefD := ⟨("Switch", some "connected"), "connected", "Switch.connected", defArgs s_Switch_connected, defBody s_Switch_connected, defScope s_Switch_connected, [], []⟩
abbrev s_Switch_word : Stmt := inClass (top 15) 12
def d_Switch_word : He.DefD := ⟨("Switch", some "word"), "word", "Switch.word", defArgs s_Switch_word, defBody s_Switch_word, defScope s_Switch_word, [], []⟩
abbrev s_Switch_clear : Stmt := inClass (top 15) 13
def d_Switch_clear : He.DefD := ⟨("Switch", some "clear"), "clear", "Switch.clear", defArgs s_Switch_clear, defBody s_Switch_clear, defScope s_Switch_clear, [], []⟩
abbrev s_Switch_drop : Stmt := inClass (top 15) 14
def d_Switch_drop : He.DefD := ⟨("Switch", some "drop"), "drop", "Switch.drop", defArgs s_Switch_drop, defBody s_Switch_drop, defScope s_Switch_drop, [], []⟩
abbrev s_Switch_leave : Stmt := inClass (top 15) 15
def d_Switch_leave : He.DefD := ⟨("Switch", some "leave"), "leave", "Switch.leave", defArgs s_Switch_leave, defBody s_Switch_leave, defScope s_Switch_leave, [], []⟩
abbrev s_Switch_disconnect : Stmt := inClass (top 15) 16
def d_Switch_disconnect : He.DefD := ⟨("Switch", some "disconnect"), "disconnect", "Switch.disconnect", defArgs s_Switch_disconnect, defBody s_Switch_disconnect, defScope s_Switch_disconnect, [], []⟩
abbrev s_Switch_lost : Stmt := inClass (top 15) 17
def d_Switch_lost : He.DefD := ⟨("Switch", some "lost"), "lost", "Switch.lost", defArgs s_Switch_lost, defBody s_Switch_lost, defScope s_Switch_lost, [], []⟩
abbrev s_Switch_not_reached : Stmt := inClass (top 15) 18
def d_Switch_not_reached : He.DefD := ⟨("Switch", some "not_reached"), "not_reached", "Switch.not_reached", defArgs s_Switch_not_reached, defBody s_Switch_not_reached, defScope s_Switch_not_reached, [], []⟩
abbrev s_Switch_failed : Stmt := inClass (top 15) 19
def d_Switch_failed : He.DefD := ⟨("Switch", some "failed"), "failed", "Switch.failed", defArgs s_Switch_failed, defBody s_Switch_failed, defScope s_Switch_failed, [], []⟩
abbrev s_Switch_step : Stmt := inClass (top 15) 20
def d_Switch_step : He.DefD := ⟨("Switch", some "step"), "step", "Switch.step", defArgs s_Switch_step, defBody s_Switch_step, defScope s_Switch_step, [], []⟩
abbrev s_Person_init : Stmt := inClass (top 17) 0
def d_Person_init : He.DefD := ⟨("Person", some "__init__"), "__init__", "Person.__init__", defArgs s_Person_init, defBody s_Person_init, defScope s_Person_init, [], []⟩
abbrev s_Home_init : Stmt := inClass (top 18) 0
def d_Home_init : He.DefD := ⟨("Home", some "__init__"), "__init__", "Home.__init__", defArgs s_Home_init, defBody s_Home_init, defScope s_Home_init, [], []⟩
abbrev s_Home_add : Stmt := inClass (top 18) 1
def d_Home_add : He.DefD := ⟨("Home", some "add"), "add", "Home.add", defArgs s_Home_add, defBody s_Home_add, defScope s_Home_add, [], []⟩
abbrev s_Home_find : Stmt := inClass (top 18) 2
def d_Home_find : He.DefD := ⟨("Home", some "find"), "find", "Home.find", defArgs s_Home_find, defBody s_Home_find, defScope s_Home_find, [], []⟩
abbrev s_Home_with_digits : Stmt := inClass (top 18) 3
def d_Home_with_digits : He.DefD := ⟨("Home", some "with_digits"), "with_digits", "Home.with_digits", defArgs s_Home_with_digits, defBody s_Home_with_digits, defScope s_Home_with_digits, [], []⟩
abbrev s_Home_with_number : Stmt := inClass (top 18) 4
def d_Home_with_number : He.DefD := ⟨("Home", some "with_number"), "with_number", "Home.with_number", defArgs s_Home_with_number, defBody s_Home_with_number, defScope s_Home_with_number, [], []⟩
abbrev s_Home_number : Stmt := inClass (top 18) 6
def d_Home_number : He.DefD := ⟨("Home", some "number"), "number", "Home.number", defArgs s_Home_number, defBody s_Home_number, defScope s_Home_number, [], []⟩
abbrev s_Home_area : Stmt := inClass (top 18) 7
def d_Home_area : He.DefD := ⟨("Home", some "area"), "area", "Home.area", defArgs s_Home_area, defBody s_Home_area, defScope s_Home_area, [], []⟩
abbrev s_Home_set_area : Stmt := inClass (top 18) 8
def d_Home_set_area : He.DefD := ⟨("Home", some "set_area"), "set_area", "Home.set_area", defArgs s_Home_set_area, defBody s_Home_set_area, defScope s_Home_set_area, [], []⟩
abbrev s_Home_forward : Stmt := inClass (top 18) 9
def d_Home_forward : He.DefD := ⟨("Home", some "forward"), "forward", "Home.forward", defArgs s_Home_forward, defBody s_Home_forward, defScope s_Home_forward, [], []⟩
abbrev s_Home_set_forward : Stmt := inClass (top 18) 10
def d_Home_set_forward : He.DefD := ⟨("Home", some "set_forward"), "set_forward", "Home.set_forward", defArgs s_Home_set_forward, defBody s_Home_set_forward, defScope s_Home_set_forward, [], []⟩
abbrev s_law_mixed : Stmt := top 20
def d_law_mixed : He.DefD := ⟨("_law_mixed", none), "_law_mixed", "_law_mixed", defArgs s_law_mixed, defBody s_law_mixed, defScope s_law_mixed, [], []⟩
abbrev s_law_cell : Stmt := top 21
def d_law_cell : He.DefD := ⟨("_law_cell", none), "_law_cell", "_law_cell", defArgs s_law_cell, defBody s_law_cell, defScope s_law_cell, [], []⟩
abbrev s_law_number : Stmt := top 22
def d_law_number : He.DefD := ⟨("_law_number", none), "_law_number", "_law_number", defArgs s_law_number, defBody s_law_number, defScope s_law_number, [], []⟩
abbrev s_law_pick : Stmt := top 23
def d_law_pick : He.DefD := ⟨("_law_pick", none), "_law_pick", "_law_pick", defArgs s_law_pick, defBody s_law_pick, defScope s_law_pick, [], []⟩
abbrev s_law_home : Stmt := top 24
def d_law_home : He.DefD := ⟨("_law_home", none), "_law_home", "_law_home", defArgs s_law_home, defBody s_law_home, defScope s_law_home, [], []⟩
abbrev s_law_goal : Stmt := top 25
def d_law_goal : He.DefD := ⟨("_law_goal", none), "_law_goal", "_law_goal", defArgs s_law_goal, defBody s_law_goal, defScope s_law_goal, [], []⟩
abbrev s_law_find : Stmt := top 26
def d_law_find : He.DefD := ⟨("_law_find", none), "_law_find", "_law_find", defArgs s_law_find, defBody s_law_find, defScope s_law_find, [], []⟩
abbrev s_law_leg : Stmt := top 27
def d_law_leg : He.DefD := ⟨("_law_leg", none), "_law_leg", "_law_leg", defArgs s_law_leg, defBody s_law_leg, defScope s_law_leg, [], []⟩
abbrev s_law_sides : Stmt := top 28
def d_law_sides : He.DefD := ⟨("_law_sides", none), "_law_sides", "_law_sides", defArgs s_law_sides, defBody s_law_sides, defScope s_law_sides, [], []⟩
abbrev s_law_refuse : Stmt := top 29
def d_law_refuse : He.DefD := ⟨("_law_refuse", none), "_law_refuse", "_law_refuse", defArgs s_law_refuse, defBody s_law_refuse, defScope s_law_refuse, [], []⟩
abbrev s_law_drop : Stmt := top 30
def d_law_drop : He.DefD := ⟨("_law_drop", none), "_law_drop", "_law_drop", defArgs s_law_drop, defBody s_law_drop, defScope s_law_drop, [], []⟩
abbrev s_law_start : Stmt := top 31
def d_law_start : He.DefD := ⟨("_law_start", none), "_law_start", "_law_start", defArgs s_law_start, defBody s_law_start, defScope s_law_start, [], []⟩
abbrev s_law_called : Stmt := top 32
def d_law_called : He.DefD := ⟨("_law_called", none), "_law_called", "_law_called", defArgs s_law_called, defBody s_law_called, defScope s_law_called, [], []⟩
abbrev s_law_connected : Stmt := top 33
def d_law_connected : He.DefD := ⟨("_law_connected", none), "_law_connected", "_law_connected", defArgs s_law_connected, defBody s_law_connected, defScope s_law_connected, [], []⟩
abbrev s_law_other : Stmt := top 34
def d_law_other : He.DefD := ⟨("_law_other", none), "_law_other", "_law_other", defArgs s_law_other, defBody s_law_other, defScope s_law_other, [], []⟩
abbrev s_law_word : Stmt := top 35
def d_law_word : He.DefD := ⟨("_law_word", none), "_law_word", "_law_word", defArgs s_law_word, defBody s_law_word, defScope s_law_word, [], []⟩
abbrev s_law_leave : Stmt := top 36
def d_law_leave : He.DefD := ⟨("_law_leave", none), "_law_leave", "_law_leave", defArgs s_law_leave, defBody s_law_leave, defScope s_law_leave, [], []⟩
abbrev s_law_not_reached : Stmt := top 37
def d_law_not_reached : He.DefD := ⟨("_law_not_reached", none), "_law_not_reached", "_law_not_reached", defArgs s_law_not_reached, defBody s_law_not_reached, defScope s_law_not_reached, [], []⟩
abbrev s_law_failed : Stmt := top 38
def d_law_failed : He.DefD := ⟨("_law_failed", none), "_law_failed", "_law_failed", defArgs s_law_failed, defBody s_law_failed, defScope s_law_failed, [], []⟩
abbrev s_law_step : Stmt := top 39
def d_law_step : He.DefD := ⟨("_law_step", none), "_law_step", "_law_step", defArgs s_law_step, defBody s_law_step, defScope s_law_step, [], []⟩
abbrev s_law_word_of : Stmt := top 40
def d_law_word_of : He.DefD := ⟨("_law_word_of", none), "_law_word_of", "_law_word_of", defArgs s_law_word_of, defBody s_law_word_of, defScope s_law_word_of, [], []⟩
abbrev s_law_change : Stmt := top 41
def d_law_change : He.DefD := ⟨("_law_change", none), "_law_change", "_law_change", defArgs s_law_change, defBody s_law_change, defScope s_law_change, [], []⟩
abbrev s_law_choose : Stmt := top 42
def d_law_choose : He.DefD := ⟨("_law_choose", none), "_law_choose", "_law_choose", defArgs s_law_choose, defBody s_law_choose, defScope s_law_choose, [], []⟩
abbrev s_law_due : Stmt := top 43
def d_law_due : He.DefD := ⟨("_law_due", none), "_law_due", "_law_due", defArgs s_law_due, defBody s_law_due, defScope s_law_due, [], []⟩
abbrev s_law_actions : Stmt := top 44
def d_law_actions : He.DefD := ⟨("_law_actions", none), "_law_actions", "_law_actions", defArgs s_law_actions, defBody s_law_actions, defScope s_law_actions, [], []⟩
abbrev s_law_agrees : Stmt := top 45
def d_law_agrees : He.DefD := ⟨("_law_agrees", none), "_law_agrees", "_law_agrees", defArgs s_law_agrees, defBody s_law_agrees, defScope s_law_agrees, [], []⟩
abbrev s_law : Stmt := top 46
def d_law : He.DefD := ⟨("law", none), "law", "law", defArgs s_law, defBody s_law, defScope s_law, [], []⟩
def fn : List He.DefD := ([d_Book_init, d_Book_begin, d_Book_end, d_Book_lines, d_rule_for, d_find_goal, d_Call_init, d_Call_other, d_refuse, d_Switch_init, d_Switch_find, d_Switch_called_in, d_Switch_sides, d_Switch_calls, d_Switch_call_of, d_Switch_is_leg, d_Switch_start, d_Switch_answered, d_Switch_alerting, d_Switch_connect, d_Switch_connected, d_Switch_word, d_Switch_clear, d_Switch_drop, d_Switch_leave, d_Switch_disconnect, d_Switch_lost, d_Switch_not_reached, d_Switch_failed, d_Switch_step] : List He.DefD) ++ ([d_Person_init, d_Home_init, d_Home_add, d_Home_find, d_Home_with_digits, d_Home_with_number, d_Home_number, d_Home_area, d_Home_set_area, d_Home_forward, d_Home_set_forward, d_law_mixed, d_law_cell, d_law_number, d_law_pick, d_law_home, d_law_goal, d_law_find, d_law_leg, d_law_sides, d_law_refuse, d_law_drop, d_law_start, d_law_called, d_law_connected, d_law_other, d_law_word, d_law_leave, d_law_not_reached, d_law_failed] : List He.DefD) ++ ([d_law_step, d_law_word_of, d_law_change, d_law_choose, d_law_due, d_law_actions, d_law_agrees, d_law] : List He.DefD)
def fa : List He.Fa := ([.glo "Book", .cls "Book", .mkr "Book", .noat "Book" "rows", .glo "Call", .cls "Call", .mkr "Call", .noat "Call" "caller", .noat "Call" "called", .noat "Call" "stage", .noat "Call" "hops", .noat "Call" "since", .noat "Call" "line", .glo "Switch", .cls "Switch", .mkr "Switch", .noat "Switch" "home", .noat "Switch" "book", .noat "Switch" "rows", .glo "Person", .cls "Person", .mkr "Person", .noat "Person" "digits", .noat "Person" "number", .noat "Person" "area", .noat "Person" "numbers", .glo "Home", .cls "Home", .mkr "Home", .noat "Home" "rows"] : List He.Fa) ++ ([.meth "Book" "begin", .meth "Book" "end", .meth "Book" "lines", .glo "rule_for", .glo "find_goal", .meth "Call" "other", .glo "refuse", .meth "Switch" "find", .meth "Switch" "called_in", .meth "Switch" "sides", .meth "Switch" "calls", .meth "Switch" "call_of", .meth "Switch" "is_leg", .meth "Switch" "start", .meth "Switch" "answered", .meth "Switch" "alerting", .meth "Switch" "connect", .meth "Switch" "connected", .meth "Switch" "word", .meth "Switch" "clear", .meth "Switch" "drop", .meth "Switch" "leave", .meth "Switch" "disconnect", .meth "Switch" "lost", .meth "Switch" "not_reached", .meth "Switch" "failed", .meth "Switch" "step", .meth "Home" "add", .meth "Home" "find", .meth "Home" "with_digits"] : List He.Fa) ++ ([.meth "Home" "with_number", .meth "Home" "number", .meth "Home" "area", .meth "Home" "set_area", .meth "Home" "forward", .meth "Home" "set_forward", .glo "_law_mixed", .glo "_law_cell", .glo "_law_number", .glo "_law_pick", .glo "_law_home", .glo "_law_goal", .glo "_law_find", .glo "_law_leg", .glo "_law_sides", .glo "_law_refuse", .glo "_law_drop", .glo "_law_start", .glo "_law_called", .glo "_law_connected", .glo "_law_other", .glo "_law_word", .glo "_law_leave", .glo "_law_not_reached", .glo "_law_failed", .glo "_law_step", .glo "_law_word_of", .glo "_law_change", .glo "_law_choose", .glo "_law_due"] : List He.Fa) ++ ([.glo "_law_actions", .glo "_law_agrees", .glo "law", .free "len", .free "list", .free "str", .free "int", .free "tuple", .free "isinstance", .free "range", .free "enumerate", .free "bool", .int "RING" 16, .int "HOPS" 2] : List He.Fa)
def loose : List Str := (["_wall", "MobileError", "NoSuch", "NotNow", "Book", "RING", "HOPS", "rule_for", "find_goal", "Call", "refuse", "Switch", "Person", "Home", "_law_mixed", "_law_cell", "_law_number", "_law_pick", "_law_home", "_law_goal", "_law_find", "_law_leg", "_law_sides", "_law_refuse", "_law_drop", "_law_start", "_law_called", "_law_connected", "_law_other", "_law_word"] : List Str) ++ (["_law_leave", "_law_not_reached", "_law_failed", "_law_step", "_law_word_of", "_law_change", "_law_choose", "_law_due", "_law_actions", "_law_agrees"] : List Str)
abbrev N_Book_init : List Str := ["self"]
abbrev P_Book_init : List Str := ["self"]
theorem sc_Book_init : FnScope N_Book_init P_Book_init (defScope s_Book_init) := ⟨rfl, rfl, rfl, by decide +kernel, rfl, by decide +kernel, by decide +kernel⟩
abbrev N_Book_begin : List Str := ["self", "caller", "called", "tick"]
abbrev P_Book_begin : List Str := ["self", "caller", "called", "tick"]
theorem sc_Book_begin : FnScope N_Book_begin P_Book_begin (defScope s_Book_begin) := ⟨rfl, rfl, rfl, by decide +kernel, rfl, by decide +kernel, by decide +kernel⟩
abbrev N_Book_end : List Str := ["self", "line", "tick", "cause", "caller", "called", "began", "ended", "_"]
abbrev P_Book_end : List Str := ["self", "line", "tick", "cause"]
theorem sc_Book_end : FnScope N_Book_end P_Book_end (defScope s_Book_end) := ⟨rfl, rfl, rfl, by decide +kernel, rfl, by decide +kernel, by decide +kernel⟩
abbrev N_Book_lines : List Str := ["self"]
abbrev P_Book_lines : List Str := ["self"]
theorem sc_Book_lines : FnScope N_Book_lines P_Book_lines (defScope s_Book_lines) := ⟨rfl, rfl, rfl, by decide +kernel, rfl, by decide +kernel, by decide +kernel⟩
abbrev N_rule_for : List Str := ["home", "person", "caller", "busy"]
abbrev P_rule_for : List Str := ["home", "person", "caller", "busy"]
theorem sc_rule_for : FnScope N_rule_for P_rule_for (defScope s_rule_for) := ⟨rfl, rfl, rfl, by decide +kernel, rfl, by decide +kernel, by decide +kernel⟩
abbrev N_find_goal : List Str := ["home", "number", "caller", "busy", "hops", "person", "kind", "cause"]
abbrev P_find_goal : List Str := ["home", "number", "caller", "busy", "hops"]
theorem sc_find_goal : FnScope N_find_goal P_find_goal (defScope s_find_goal) := ⟨rfl, rfl, rfl, by decide +kernel, rfl, by decide +kernel, by decide +kernel⟩
abbrev N_Call_init : List Str := ["self", "caller", "called", "hops"]
abbrev P_Call_init : List Str := ["self", "caller", "called", "hops"]
theorem sc_Call_init : FnScope N_Call_init P_Call_init (defScope s_Call_init) := ⟨rfl, rfl, rfl, by decide +kernel, rfl, by decide +kernel, by decide +kernel⟩
abbrev N_Call_other : List Str := ["self", "person"]
abbrev P_Call_other : List Str := ["self", "person"]
theorem sc_Call_other : FnScope N_Call_other P_Call_other (defScope s_Call_other) := ⟨rfl, rfl, rfl, by decide +kernel, rfl, by decide +kernel, by decide +kernel⟩
abbrev N_refuse : List Str := ["person", "cause"]
abbrev P_refuse : List Str := ["person", "cause"]
theorem sc_refuse : FnScope N_refuse P_refuse (defScope s_refuse) := ⟨rfl, rfl, rfl, by decide +kernel, rfl, by decide +kernel, by decide +kernel⟩
abbrev N_Switch_init : List Str := ["self", "home"]
abbrev P_Switch_init : List Str := ["self", "home"]
theorem sc_Switch_init : FnScope N_Switch_init P_Switch_init (defScope s_Switch_init) := ⟨rfl, rfl, rfl, by decide +kernel, rfl, by decide +kernel, by decide +kernel⟩
abbrev N_Switch_find : List Str := ["self", "person", "call"]
abbrev P_Switch_find : List Str := ["self", "person"]
theorem sc_Switch_find : FnScope N_Switch_find P_Switch_find (defScope s_Switch_find) := ⟨rfl, rfl, rfl, by decide +kernel, rfl, by decide +kernel, by decide +kernel⟩
abbrev N_Switch_called_in : List Str := ["self", "person", "stages", "call"]
abbrev P_Switch_called_in : List Str := ["self", "person", "stages"]
theorem sc_Switch_called_in : FnScope N_Switch_called_in P_Switch_called_in (defScope s_Switch_called_in) := ⟨rfl, rfl, rfl, by decide +kernel, rfl, by decide +kernel, by decide +kernel⟩
abbrev N_Switch_sides : List Str := ["self", "found", "call"]
abbrev P_Switch_sides : List Str := ["self"]
theorem sc_Switch_sides : FnScope N_Switch_sides P_Switch_sides (defScope s_Switch_sides) := ⟨rfl, rfl, rfl, by decide +kernel, rfl, by decide +kernel, by decide +kernel⟩
abbrev N_Switch_calls : List Str := ["self", "call"]
abbrev P_Switch_calls : List Str := ["self"]
theorem sc_Switch_calls : FnScope N_Switch_calls P_Switch_calls (defScope s_Switch_calls) := ⟨rfl, rfl, rfl, by decide +kernel, rfl, by decide +kernel, by decide +kernel⟩
abbrev N_Switch_call_of : List Str := ["self", "person", "call"]
abbrev P_Switch_call_of : List Str := ["self", "person"]
theorem sc_Switch_call_of : FnScope N_Switch_call_of P_Switch_call_of (defScope s_Switch_call_of) := ⟨rfl, rfl, rfl, by decide +kernel, rfl, by decide +kernel, by decide +kernel⟩
abbrev N_Switch_is_leg : List Str := ["self", "person", "call"]
abbrev P_Switch_is_leg : List Str := ["self", "person"]
theorem sc_Switch_is_leg : FnScope N_Switch_is_leg P_Switch_is_leg (defScope s_Switch_is_leg) := ⟨rfl, rfl, rfl, by decide +kernel, rfl, by decide +kernel, by decide +kernel⟩
abbrev N_Switch_start : List Str := ["self", "person", "number", "linked", "tick", "goal", "cause", "hops"]
abbrev P_Switch_start : List Str := ["self", "person", "number", "linked", "tick"]
theorem sc_Switch_start : FnScope N_Switch_start P_Switch_start (defScope s_Switch_start) := ⟨rfl, rfl, rfl, by decide +kernel, rfl, by decide +kernel, by decide +kernel⟩
abbrev N_Switch_answered : List Str := ["self", "person", "tick", "call"]
abbrev P_Switch_answered : List Str := ["self", "person", "tick"]
theorem sc_Switch_answered : FnScope N_Switch_answered P_Switch_answered (defScope s_Switch_answered) := ⟨rfl, rfl, rfl, by decide +kernel, rfl, by decide +kernel, by decide +kernel⟩
abbrev N_Switch_alerting : List Str := ["self", "person", "call"]
abbrev P_Switch_alerting : List Str := ["self", "person"]
theorem sc_Switch_alerting : FnScope N_Switch_alerting P_Switch_alerting (defScope s_Switch_alerting) := ⟨rfl, rfl, rfl, by decide +kernel, rfl, by decide +kernel, by decide +kernel⟩
abbrev N_Switch_connect : List Str := ["self", "person", "call"]
abbrev P_Switch_connect : List Str := ["self", "person"]
theorem sc_Switch_connect : FnScope N_Switch_connect P_Switch_connect (defScope s_Switch_connect) := ⟨rfl, rfl, rfl, by decide +kernel, rfl, by decide +kernel, by decide +kernel⟩
abbrev N_Switch_connected : List Str := ["self", "person", "tick", "call"]
abbrev P_Switch_connected : List Str := ["self", "person", "tick"]
theorem sc_Switch_connected : FnScope N_Switch_connected P_Switch_connected (defScope s_Switch_connected) := ⟨rfl, rfl, rfl, by decide +kernel, rfl, by decide +kernel, by decide +kernel⟩
abbrev N_Switch_word : List Str := ["self", "person", "octets", "call"]
abbrev P_Switch_word : List Str := ["self", "person", "octets"]
theorem sc_Switch_word : FnScope N_Switch_word P_Switch_word (defScope s_Switch_word) := ⟨rfl, rfl, rfl, by decide +kernel, rfl, by decide +kernel, by decide +kernel⟩
abbrev N_Switch_clear : List Str := ["self", "call", "person", "cause"]
abbrev P_Switch_clear : List Str := ["self", "call", "person", "cause"]
theorem sc_Switch_clear : FnScope N_Switch_clear P_Switch_clear (defScope s_Switch_clear) := ⟨rfl, rfl, rfl, by decide +kernel, rfl, by decide +kernel, by decide +kernel⟩
abbrev N_Switch_drop : List Str := ["self", "call", "tick", "cause", "other"]
abbrev P_Switch_drop : List Str := ["self", "call", "tick", "cause"]
theorem sc_Switch_drop : FnScope N_Switch_drop P_Switch_drop (defScope s_Switch_drop) := ⟨rfl, rfl, rfl, by decide +kernel, rfl, by decide +kernel, by decide +kernel⟩
abbrev N_Switch_leave : List Str := ["self", "person", "cause", "tick", "call", "actions"]
abbrev P_Switch_leave : List Str := ["self", "person", "cause", "tick"]
theorem sc_Switch_leave : FnScope N_Switch_leave P_Switch_leave (defScope s_Switch_leave) := ⟨rfl, rfl, rfl, by decide +kernel, rfl, by decide +kernel, by decide +kernel⟩
abbrev N_Switch_disconnect : List Str := ["self", "person", "cause", "tick"]
abbrev P_Switch_disconnect : List Str := ["self", "person", "cause", "tick"]
theorem sc_Switch_disconnect : FnScope N_Switch_disconnect P_Switch_disconnect (defScope s_Switch_disconnect) := ⟨rfl, rfl, rfl, by decide +kernel, rfl, by decide +kernel, by decide +kernel⟩
abbrev N_Switch_lost : List Str := ["self", "person", "tick"]
abbrev P_Switch_lost : List Str := ["self", "person", "tick"]
theorem sc_Switch_lost : FnScope N_Switch_lost P_Switch_lost (defScope s_Switch_lost) := ⟨rfl, rfl, rfl, by decide +kernel, rfl, by decide +kernel, by decide +kernel⟩
abbrev N_Switch_not_reached : List Str := ["self", "call", "kind", "cause", "linked", "number", "goal", "busy", "side"]
abbrev P_Switch_not_reached : List Str := ["self", "call", "kind", "cause", "linked"]
theorem sc_Switch_not_reached : FnScope N_Switch_not_reached P_Switch_not_reached (defScope s_Switch_not_reached) := ⟨rfl, rfl, rfl, by decide +kernel, rfl, by decide +kernel, by decide +kernel⟩
abbrev N_Switch_failed : List Str := ["self", "person", "linked", "tick", "call"]
abbrev P_Switch_failed : List Str := ["self", "person", "linked", "tick"]
theorem sc_Switch_failed : FnScope N_Switch_failed P_Switch_failed (defScope s_Switch_failed) := ⟨rfl, rfl, rfl, by decide +kernel, rfl, by decide +kernel, by decide +kernel⟩
abbrev N_Switch_step : List Str := ["self", "linked", "tick", "actions", "call", "person"]
abbrev P_Switch_step : List Str := ["self", "linked", "tick"]
theorem sc_Switch_step : FnScope N_Switch_step P_Switch_step (defScope s_Switch_step) := ⟨rfl, rfl, rfl, by decide +kernel, rfl, by decide +kernel, by decide +kernel⟩
abbrev N_Person_init : List Str := ["self", "digits", "number"]
abbrev P_Person_init : List Str := ["self", "digits", "number"]
theorem sc_Person_init : FnScope N_Person_init P_Person_init (defScope s_Person_init) := ⟨rfl, rfl, rfl, by decide +kernel, rfl, by decide +kernel, by decide +kernel⟩
abbrev N_Home_init : List Str := ["self"]
abbrev P_Home_init : List Str := ["self"]
theorem sc_Home_init : FnScope N_Home_init P_Home_init (defScope s_Home_init) := ⟨rfl, rfl, rfl, by decide +kernel, rfl, by decide +kernel, by decide +kernel⟩
abbrev N_Home_add : List Str := ["self", "digits", "number"]
abbrev P_Home_add : List Str := ["self", "digits", "number"]
theorem sc_Home_add : FnScope N_Home_add P_Home_add (defScope s_Home_add) := ⟨rfl, rfl, rfl, by decide +kernel, rfl, by decide +kernel, by decide +kernel⟩
abbrev N_Home_find : List Str := ["self", "person"]
abbrev P_Home_find : List Str := ["self", "person"]
theorem sc_Home_find : FnScope N_Home_find P_Home_find (defScope s_Home_find) := ⟨rfl, rfl, rfl, by decide +kernel, rfl, by decide +kernel, by decide +kernel⟩
abbrev N_Home_with_digits : List Str := ["self", "digits", "at", "row"]
abbrev P_Home_with_digits : List Str := ["self", "digits"]
theorem sc_Home_with_digits : FnScope N_Home_with_digits P_Home_with_digits (defScope s_Home_with_digits) := ⟨rfl, rfl, rfl, by decide +kernel, rfl, by decide +kernel, by decide +kernel⟩
abbrev N_Home_with_number : List Str := ["self", "number", "at", "row"]
abbrev P_Home_with_number : List Str := ["self", "number"]
theorem sc_Home_with_number : FnScope N_Home_with_number P_Home_with_number (defScope s_Home_with_number) := ⟨rfl, rfl, rfl, by decide +kernel, rfl, by decide +kernel, by decide +kernel⟩
abbrev N_Home_number : List Str := ["self", "person"]
abbrev P_Home_number : List Str := ["self", "person"]
theorem sc_Home_number : FnScope N_Home_number P_Home_number (defScope s_Home_number) := ⟨rfl, rfl, rfl, by decide +kernel, rfl, by decide +kernel, by decide +kernel⟩
abbrev N_Home_area : List Str := ["self", "person"]
abbrev P_Home_area : List Str := ["self", "person"]
theorem sc_Home_area : FnScope N_Home_area P_Home_area (defScope s_Home_area) := ⟨rfl, rfl, rfl, by decide +kernel, rfl, by decide +kernel, by decide +kernel⟩
abbrev N_Home_set_area : List Str := ["self", "person", "area", "row"]
abbrev P_Home_set_area : List Str := ["self", "person", "area"]
theorem sc_Home_set_area : FnScope N_Home_set_area P_Home_set_area (defScope s_Home_set_area) := ⟨rfl, rfl, rfl, by decide +kernel, rfl, by decide +kernel, by decide +kernel⟩
abbrev N_Home_forward : List Str := ["self", "person", "kind"]
abbrev P_Home_forward : List Str := ["self", "person", "kind"]
theorem sc_Home_forward : FnScope N_Home_forward P_Home_forward (defScope s_Home_forward) := ⟨rfl, rfl, rfl, by decide +kernel, rfl, by decide +kernel, by decide +kernel⟩
abbrev N_Home_set_forward : List Str := ["self", "person", "kind", "number", "row", "was"]
abbrev P_Home_set_forward : List Str := ["self", "person", "kind", "number"]
theorem sc_Home_set_forward : FnScope N_Home_set_forward P_Home_set_forward (defScope s_Home_set_forward) := ⟨rfl, rfl, rfl, by decide +kernel, rfl, by decide +kernel, by decide +kernel⟩
abbrev N_law_mixed : List Str := ["_law_cell_here", "_law_turn", "_law_value", "_law_first", "_law_second", "_law_third"]
abbrev P_law_mixed : List Str := ["_law_cell_here", "_law_turn"]
theorem sc_law_mixed : FnScope N_law_mixed P_law_mixed (defScope s_law_mixed) := ⟨rfl, rfl, rfl, by decide +kernel, rfl, by decide +kernel, by decide +kernel⟩
abbrev N_law_cell : List Str := ["_law_script", "_law_k"]
abbrev P_law_cell : List Str := ["_law_script", "_law_k"]
theorem sc_law_cell : FnScope N_law_cell P_law_cell (defScope s_law_cell) := ⟨rfl, rfl, rfl, by decide +kernel, rfl, by decide +kernel, by decide +kernel⟩
abbrev N_law_number : List Str := ["_law_script", "_law_k", "_law_cell_here"]
abbrev P_law_number : List Str := ["_law_script", "_law_k"]
theorem sc_law_number : FnScope N_law_number P_law_number (defScope s_law_number) := ⟨rfl, rfl, rfl, by decide +kernel, rfl, by decide +kernel, by decide +kernel⟩
abbrev N_law_pick : List Str := ["_law_numbers", "_law_digit"]
abbrev P_law_pick : List Str := ["_law_numbers", "_law_digit"]
theorem sc_law_pick : FnScope N_law_pick P_law_pick (defScope s_law_pick) := ⟨rfl, rfl, rfl, by decide +kernel, rfl, by decide +kernel, by decide +kernel⟩
abbrev N_law_home : List Str := ["_law_script", "_law_people", "_law_home_here", "_law_numbers", "_law_facts", "_law_k", "_law_cell_here", "_law_fact", "_law_kind"]
abbrev P_law_home : List Str := ["_law_script", "_law_people"]
theorem sc_law_home : FnScope N_law_home P_law_home (defScope s_law_home) := ⟨rfl, rfl, rfl, by decide +kernel, rfl, by decide +kernel, by decide +kernel⟩
abbrev N_law_goal : List Str := ["_law_numbers", "_law_facts", "_law_number_here", "_law_caller", "_law_busy", "_law_hops", "_law_spare", "_law_person", "_law_kind", "_law_cause"]
abbrev P_law_goal : List Str := ["_law_numbers", "_law_facts", "_law_number_here", "_law_caller", "_law_busy", "_law_hops"]
theorem sc_law_goal : FnScope N_law_goal P_law_goal (defScope s_law_goal) := ⟨rfl, rfl, rfl, by decide +kernel, rfl, by decide +kernel, by decide +kernel⟩
abbrev N_law_find : List Str := ["_law_calls", "_law_person", "_law_call"]
abbrev P_law_find : List Str := ["_law_calls", "_law_person"]
theorem sc_law_find : FnScope N_law_find P_law_find (defScope s_law_find) := ⟨rfl, rfl, rfl, by decide +kernel, rfl, by decide +kernel, by decide +kernel⟩
abbrev N_law_leg : List Str := ["_law_calls", "_law_person", "_law_call"]
abbrev P_law_leg : List Str := ["_law_calls", "_law_person"]
theorem sc_law_leg : FnScope N_law_leg P_law_leg (defScope s_law_leg) := ⟨rfl, rfl, rfl, by decide +kernel, rfl, by decide +kernel, by decide +kernel⟩
abbrev N_law_sides : List Str := ["_law_calls", "_law_found", "_law_call"]
abbrev P_law_sides : List Str := ["_law_calls"]
theorem sc_law_sides : FnScope N_law_sides P_law_sides (defScope s_law_sides) := ⟨rfl, rfl, rfl, by decide +kernel, rfl, by decide +kernel, by decide +kernel⟩
abbrev N_law_refuse : List Str := ["_law_person", "_law_cause"]
abbrev P_law_refuse : List Str := ["_law_person", "_law_cause"]
theorem sc_law_refuse : FnScope N_law_refuse P_law_refuse (defScope s_law_refuse) := ⟨rfl, rfl, rfl, by decide +kernel, rfl, by decide +kernel, by decide +kernel⟩
abbrev N_law_drop : List Str := ["_law_world", "_law_call", "_law_tick", "_law_cause", "_law_left", "_law_other_here", "_law_row"]
abbrev P_law_drop : List Str := ["_law_world", "_law_call", "_law_tick", "_law_cause"]
theorem sc_law_drop : FnScope N_law_drop P_law_drop (defScope s_law_drop) := ⟨rfl, rfl, rfl, by decide +kernel, rfl, by decide +kernel, by decide +kernel⟩
abbrev N_law_start : List Str := ["_law_world", "_law_person", "_law_number_here", "_law_linked", "_law_busy", "_law_goal_here", "_law_cause", "_law_hops", "_law_call"]
abbrev P_law_start : List Str := ["_law_world", "_law_person", "_law_number_here", "_law_linked"]
theorem sc_law_start : FnScope N_law_start P_law_start (defScope s_law_start) := ⟨rfl, rfl, rfl, by decide +kernel, rfl, by decide +kernel, by decide +kernel⟩
abbrev N_law_called : List Str := ["_law_world", "_law_kind", "_law_person", "_law_tick", "_law_call"]
abbrev P_law_called : List Str := ["_law_world", "_law_kind", "_law_person", "_law_tick"]
theorem sc_law_called : FnScope N_law_called P_law_called (defScope s_law_called) := ⟨rfl, rfl, rfl, by decide +kernel, rfl, by decide +kernel, by decide +kernel⟩
abbrev N_law_connected : List Str := ["_law_world", "_law_person", "_law_tick", "_law_call"]
abbrev P_law_connected : List Str := ["_law_world", "_law_person", "_law_tick"]
theorem sc_law_connected : FnScope N_law_connected P_law_connected (defScope s_law_connected) := ⟨rfl, rfl, rfl, by decide +kernel, rfl, by decide +kernel, by decide +kernel⟩
abbrev N_law_other : List Str := ["_law_call", "_law_person"]
abbrev P_law_other : List Str := ["_law_call", "_law_person"]
theorem sc_law_other : FnScope N_law_other P_law_other (defScope s_law_other) := ⟨rfl, rfl, rfl, by decide +kernel, rfl, by decide +kernel, by decide +kernel⟩
abbrev N_law_word : List Str := ["_law_world", "_law_person", "_law_octets", "_law_call"]
abbrev P_law_word : List Str := ["_law_world", "_law_person", "_law_octets"]
theorem sc_law_word : FnScope N_law_word P_law_word (defScope s_law_word) := ⟨rfl, rfl, rfl, by decide +kernel, rfl, by decide +kernel, by decide +kernel⟩
abbrev N_law_leave : List Str := ["_law_world", "_law_person", "_law_cause", "_law_tick", "_law_call", "_law_other_here", "_law_actions_here"]
abbrev P_law_leave : List Str := ["_law_world", "_law_person", "_law_cause", "_law_tick"]
theorem sc_law_leave : FnScope N_law_leave P_law_leave (defScope s_law_leave) := ⟨rfl, rfl, rfl, by decide +kernel, rfl, by decide +kernel, by decide +kernel⟩
abbrev N_law_not_reached : List Str := ["_law_world", "_law_call", "_law_kind", "_law_cause", "_law_linked", "_law_number_here", "_law_goal_here", "_law_busy", "_law_found"]
abbrev P_law_not_reached : List Str := ["_law_world", "_law_call", "_law_kind", "_law_cause", "_law_linked"]
theorem sc_law_not_reached : FnScope N_law_not_reached P_law_not_reached (defScope s_law_not_reached) := ⟨rfl, rfl, rfl, by decide +kernel, rfl, by decide +kernel, by decide +kernel⟩
abbrev N_law_failed : List Str := ["_law_world", "_law_person", "_law_linked", "_law_call"]
abbrev P_law_failed : List Str := ["_law_world", "_law_person", "_law_linked"]
theorem sc_law_failed : FnScope N_law_failed P_law_failed (defScope s_law_failed) := ⟨rfl, rfl, rfl, by decide +kernel, rfl, by decide +kernel, by decide +kernel⟩
abbrev N_law_step : List Str := ["_law_world", "_law_linked", "_law_tick", "_law_actions_here", "_law_call", "_law_person"]
abbrev P_law_step : List Str := ["_law_world", "_law_linked", "_law_tick"]
theorem sc_law_step : FnScope N_law_step P_law_step (defScope s_law_step) := ⟨rfl, rfl, rfl, by decide +kernel, rfl, by decide +kernel, by decide +kernel⟩
abbrev N_law_word_of : List Str := ["_law_value", "_law_k"]
abbrev P_law_word_of : List Str := ["_law_value"]
theorem sc_law_word_of : FnScope N_law_word_of P_law_word_of (defScope s_law_word_of) := ⟨rfl, rfl, rfl, by decide +kernel, rfl, by decide +kernel, by decide +kernel⟩
abbrev N_law_change : List Str := ["_law_world", "_law_home_here", "_law_value", "_law_person", "_law_fact", "_law_kind"]
abbrev P_law_change : List Str := ["_law_world", "_law_home_here", "_law_value"]
theorem sc_law_change : FnScope N_law_change P_law_change (defScope s_law_change) := ⟨rfl, rfl, rfl, by decide +kernel, rfl, by decide +kernel, by decide +kernel⟩
abbrev N_law_choose : List Str := ["_law_world", "_law_value", "_law_far", "_law_kinds", "_law_call", "_law_nexts", "_law_kind", "_law_person"]
abbrev P_law_choose : List Str := ["_law_world", "_law_value", "_law_far"]
theorem sc_law_choose : FnScope N_law_choose P_law_choose (defScope s_law_choose) := ⟨rfl, rfl, rfl, by decide +kernel, rfl, by decide +kernel, by decide +kernel⟩
abbrev N_law_due : List Str := ["_law_world", "_law_kind", "_law_person", "_law_value", "_law_linked", "_law_tick", "_law_number_here"]
abbrev P_law_due : List Str := ["_law_world", "_law_kind", "_law_person", "_law_value", "_law_linked", "_law_tick"]
theorem sc_law_due : FnScope N_law_due P_law_due (defScope s_law_due) := ⟨rfl, rfl, rfl, by decide +kernel, rfl, by decide +kernel, by decide +kernel⟩
abbrev N_law_actions : List Str := ["_law_switch", "_law_world", "_law_kind", "_law_person", "_law_value", "_law_linked", "_law_tick", "_law_number_here"]
abbrev P_law_actions : List Str := ["_law_switch", "_law_world", "_law_kind", "_law_person", "_law_value", "_law_linked", "_law_tick"]
theorem sc_law_actions : FnScope N_law_actions P_law_actions (defScope s_law_actions) := ⟨rfl, rfl, rfl, by decide +kernel, rfl, by decide +kernel, by decide +kernel⟩
abbrev N_law_agrees : List Str := ["_law_switch", "_law_world", "_law_due_here", "_law_told", "_law_person", "_law_call", "_law_leg_here"]
abbrev P_law_agrees : List Str := ["_law_switch", "_law_world"]
theorem sc_law_agrees : FnScope N_law_agrees P_law_agrees (defScope s_law_agrees) := ⟨rfl, rfl, rfl, by decide +kernel, rfl, by decide +kernel, by decide +kernel⟩
abbrev N_law : List Str := ["_law_script", "_law_people", "_law_home_here", "_law_numbers", "_law_facts", "_law_world", "_law_switch", "_law_tick", "_law_turn", "_law_cell_here", "_law_value", "_law_far", "_law_linked", "_law_kept", "_law_kind", "_law_person", "_law_back", "_law_due_here", "_law_k"]
abbrev P_law : List Str := ["_law_script"]
theorem sc_law : FnScope N_law P_law (defScope s_law) := ⟨rfl, rfl, rfl, by decide +kernel, rfl, by decide +kernel, by decide +kernel⟩
end Mob

set_option Elab.async false
set_option linter.all false
set_option maxRecDepth 100000
set_option maxHeartbeats 0
namespace Mob
open PySem PySem.Spec PyProof.Rows L2
abbrev R : PySem.W.OpenRow := PySem.W.OpenLaw.row PySem.Challenge.rw_mobileair_k69_whole_switch
abbrev hk : PySem.W.Hook := He.hookD 4 fa fn
def ob (s : PySem.W.SharedT) : He.AlD := He.obsDG 4 fa fn (HandSHeadRun.getT s)
theorem ob_eq (s : PySem.W.SharedT) : ob s = hk.obs s.abs := He.obsDG_eq (HandSHeadRun.getT_eq s)
theorem run (w : World) : HandSHeadRun.RunEq R (PySem.W.view R.prog [46]) hk ob 8000 loose w := by
  intro os
  kernel_rfl
end Mob

set_option Elab.async false
set_option linter.all false
set_option maxRecDepth 100000
set_option maxHeartbeats 4000000
namespace Mob
open PySem PySem.Spec PyProof.Rows L2

/-! ### all that the head tells -/
structure Hd (K : PySem.W.Frag) (mg : Str → Option Value) : Prop where
  says : He.SaysD fa fn K
  kin : ∃ h : Heap, K.In h ∧ h.Ns mainGlobals mg
/-- a def keeps its promise -/
abbrev OkD (P : Program) (w : World) (K : PySem.W.Frag) (mg : Str → Option Value) (base : Heap) (d : He.DefD) (k : Nat) (ps : List Str) (sp : Sp) : Prop :=
  ∃ fd, FunD K d.name d.qual d.params d.body d.scope [] [] (He.fAd K d.at_) fd ∧ Binds K fd ps [] ∧ FnOk P w K mg base CX0 k (He.fAd K d.at_) fd ps sp

/-! ### promises by their number of arguments -/
def sp1 (p : V → Hp → VK → Prop) : Sp := fun vs H Q _ => ∃ a, vs = [a] ∧ p a H Q
def sp2 (p : V → V → Hp → VK → Prop) : Sp := fun vs H Q _ => ∃ a b, vs = [a, b] ∧ p a b H Q
def sp3 (p : V → V → V → Hp → VK → Prop) : Sp := fun vs H Q _ => ∃ a b c, vs = [a, b, c] ∧ p a b c H Q
def sp4 (p : V → V → V → V → Hp → VK → Prop) : Sp := fun vs H Q _ => ∃ a b c d, vs = [a, b, c, d] ∧ p a b c d H Q
def sp5 (p : V → V → V → V → V → Hp → VK → Prop) : Sp := fun vs H Q _ => ∃ a b c d e, vs = [a, b, c, d, e] ∧ p a b c d e H Q
def sp6 (p : V → V → V → V → V → V → Hp → VK → Prop) : Sp := fun vs H Q _ => ∃ a b c d e f, vs = [a, b, c, d, e, f] ∧ p a b c d e f H Q
def sp7 (p : V → V → V → V → V → V → V → Hp → VK → Prop) : Sp := fun vs H Q _ => ∃ a b c d e f g, vs = [a, b, c, d, e, f, g] ∧ p a b c d e f g H Q
theorem sp1_len {p vs H Q E} (h : sp1 p vs H Q E) : vs.length = 1 := by obtain ⟨_, rfl, _⟩ := h; rfl
theorem sp2_len {p vs H Q E} (h : sp2 p vs H Q E) : vs.length = 2 := by obtain ⟨_, _, rfl, _⟩ := h; rfl
theorem sp3_len {p vs H Q E} (h : sp3 p vs H Q E) : vs.length = 3 := by obtain ⟨_, _, _, rfl, _⟩ := h; rfl
theorem sp4_len {p vs H Q E} (h : sp4 p vs H Q E) : vs.length = 4 := by obtain ⟨_, _, _, _, rfl, _⟩ := h; rfl
theorem sp5_len {p vs H Q E} (h : sp5 p vs H Q E) : vs.length = 5 := by obtain ⟨_, _, _, _, _, rfl, _⟩ := h; rfl
theorem sp6_len {p vs H Q E} (h : sp6 p vs H Q E) : vs.length = 6 := by obtain ⟨_, _, _, _, _, _, rfl, _⟩ := h; rfl
theorem sp7_len {p vs H Q E} (h : sp7 p vs H Q E) : vs.length = 7 := by obtain ⟨_, _, _, _, _, _, _, rfl, _⟩ := h; rfl

/-! ### two rules that the layer lacks -/
section
variable {X : Cx}
/-- o.f as a target -/
def gFld (K : PySem.W.Frag) (ta : TE) (f : Str) : TG := fun y σ H Q => ta σ H fun x H2 => ∃ a C dx fs, x = .ref a ∧ H2 a = some (.ins C dx fs) ∧ Cls K C ∧ NoAttr K C f ∧ fs.length < 1000 ∧ Q σ (upd H2 a (.ins C dx (putF f y fs)))
theorem pg_fld {o : Expr} {f : Str} {pos : Pos} {ta : TE} (ho : PE X o ta)
    (ha : ∀ v, assign (.Attribute o f pos) X.env v = (do
      let ov ← holding [v] (eval o X.env)
      standAt pos.atName
      holding [v, ov] (setAttr ov f v)
      release [v, ov] [])) : PG X (.Attribute o f pos) (gFld X.K ta f) := by
  refine ⟨fun pins s σ H v u Q I r h => ?_⟩
  rw [ha]
  refine wpAny_bind (wpAny_holding (thn (ho.run pins s σ H _ I h) fun ov s1 ⟨x, H2, I2, rx, a, C, dx, fs, ex, ea, c, n, l, q2⟩ => ?_))
  subst ex
  obtain rfl : ov = Value.ref a := rx
  refine wpAny_bind (wpAny_standAt (wpAny_bind (wpAny_holding ?_)))
  exact setattr_ok I2 ea c n l r fun s3 I3 => wpAny_release ⟨σ, _, I3, q2⟩
theorem pe_fldK {K : PySem.W.Frag} {e : Expr} {f : Str} {pos : Pos} {ta : TE} (he : PE X e ta) (hb : attributeBase e f X.env (eval e X.env) = eval e X.env) (hK : X.K = K) : PE X (.Attribute e f pos) (tFld K ta f) := by
  rw [← hK]
  exact pe_fld he hb
theorem ix_listK {K : PySem.W.Frag} (hK : X.K = K) : IxR X (rIxL K) := by
  rw [← hK]
  exact ix_list
end
/-- text * int, a text of one sign, a small int -/
def repS (k : Nat) (z : Str) : Str := ⟨(List.replicate k z.cps).foldl (· ++ ·) #[]⟩
def rMulS : R2 := fun x y H Q => ∃ (z : Str) (n : Int), x = .str z ∧ y = .int n ∧ z.length = 1 ∧ (n = 0 ∨ n = 1 ∨ n = 2) ∧ Q (.str (repS n.toNat z)) H
theorem repS0 (z : Str) : repS 0 z = Str.empty := rfl
theorem repS1 (z : Str) : repS 1 z = z := by
  unfold repS
  simp
theorem repS_len (k : Nat) (z : Str) (h : z.length = 1) : (repS k z).length = k := by
  have key : ∀ (k : Nat) (a : Array Nat), ((List.replicate k z.cps).foldl (· ++ ·) a).size = a.size + k := by
    intro k
    induction k with
    | zero => intro a; simp
    | succ k ih =>
      intro a
      rw [List.replicate_succ, List.foldl_cons, ih]
      have : z.cps.size = 1 := h
      simp [this]
      omega
  have := key k #[]
  simpa [repS, Str.length] using this
theorem op_mul_str {X : Cx} : OpR X (binaryOp .Mult) rMulS := by
  intro pins s σ H x y v u Q I rx ry h
  obtain ⟨z, n, rfl, rfl, h1, h2, q⟩ := h
  obtain ⟨t, rfl⟩ := rx
  obtain ⟨t', rfl⟩ := ry
  have hz : ∀ k : Nat, k ≤ 2 → (repS k z).length ≤ sizeLine := fun k hk => by rw [repS_len k z h1]; exact Nat.le_trans hk (by decide)
  have big : ∀ k : Nat, k ≤ 2 → PySem.Builtin.Str.tooLong (z.length * ((k : Nat) : Int).toNat) = false := fun k hk => by
    rw [h1]
    match k, hk with
    | 0, _ => decide
    | 1, _ => decide
    | 2, _ => decide
  rcases h2 with rfl | rfl | rfl
  · refine PySem.P.mul_str (by decide) (fun h => absurd (by decide) h) (fun h => absurd (by decide) h) ?_
    rw [if_pos (by decide)]
    exact ⟨by decide, .str (repS 0 z), H, I.tok _, ⟨_, rfl⟩, q⟩
  · refine PySem.P.mul_str (by decide) (fun _ h => absurd h (by simp)) (fun _ h => absurd h (by simp)) ?_
    rw [if_neg (by decide), if_pos (by simp)]
    exact ⟨.str z, H, I, ⟨_, rfl⟩, by rw [← repS1 z]; exact q⟩
  · refine PySem.P.mul_str (by decide) (fun _ _ => by rw [h1]; decide) (fun _ _ => big 2 (Nat.le_refl _)) ?_
    rw [if_neg (by decide), if_neg (by rw [h1]; decide)]
    exact ⟨hz 2 (Nat.le_refl _), .str (repS 2 z), H, I.tok _, ⟨_, rfl⟩, q⟩
end Mob

set_option Elab.async false
set_option linter.all false
set_option maxRecDepth 100000
set_option maxHeartbeats 4000000
namespace Mob
open PySem PySem.Spec PyProof.Rows L2
theorem Hd.gl_Book {K : PySem.W.Frag} {mg : Str → Option Value} (T : Hd K mg) : mg "Book" = some (.ref (He.ga K "Book")) := by
  obtain ⟨_, X, G⟩ := T.kin
  exact He.glo_ok X G (T.says.fact 0 rfl)
theorem Hd.cl_Book {K : PySem.W.Frag} {mg : Str → Option Value} (T : Hd K mg) : Cls K (He.ga K "Book") := He.cls_ok (T.says.fact 1 rfl)
theorem Hd.mk_Book {K : PySem.W.Frag} {mg : Str → Option Value} (T : Hd K mg) : Mk K (He.ga K "Book") (He.ma K (He.ga K "Book") "__init__") := He.mkr_ok (T.says.fact 2 rfl)
theorem Hd.na_Book_rows {K : PySem.W.Frag} {mg : Str → Option Value} (T : Hd K mg) : NoAttr K (He.ga K "Book") "rows" := He.noat_ok (T.says.fact 3 rfl)
theorem Hd.gl_Call {K : PySem.W.Frag} {mg : Str → Option Value} (T : Hd K mg) : mg "Call" = some (.ref (He.ga K "Call")) := by
  obtain ⟨_, X, G⟩ := T.kin
  exact He.glo_ok X G (T.says.fact 4 rfl)
theorem Hd.cl_Call {K : PySem.W.Frag} {mg : Str → Option Value} (T : Hd K mg) : Cls K (He.ga K "Call") := He.cls_ok (T.says.fact 5 rfl)
theorem Hd.mk_Call {K : PySem.W.Frag} {mg : Str → Option Value} (T : Hd K mg) : Mk K (He.ga K "Call") (He.ma K (He.ga K "Call") "__init__") := He.mkr_ok (T.says.fact 6 rfl)
theorem Hd.na_Call_caller {K : PySem.W.Frag} {mg : Str → Option Value} (T : Hd K mg) : NoAttr K (He.ga K "Call") "caller" := He.noat_ok (T.says.fact 7 rfl)
theorem Hd.na_Call_called {K : PySem.W.Frag} {mg : Str → Option Value} (T : Hd K mg) : NoAttr K (He.ga K "Call") "called" := He.noat_ok (T.says.fact 8 rfl)
theorem Hd.na_Call_stage {K : PySem.W.Frag} {mg : Str → Option Value} (T : Hd K mg) : NoAttr K (He.ga K "Call") "stage" := He.noat_ok (T.says.fact 9 rfl)
theorem Hd.na_Call_hops {K : PySem.W.Frag} {mg : Str → Option Value} (T : Hd K mg) : NoAttr K (He.ga K "Call") "hops" := He.noat_ok (T.says.fact 10 rfl)
theorem Hd.na_Call_since {K : PySem.W.Frag} {mg : Str → Option Value} (T : Hd K mg) : NoAttr K (He.ga K "Call") "since" := He.noat_ok (T.says.fact 11 rfl)
theorem Hd.na_Call_line {K : PySem.W.Frag} {mg : Str → Option Value} (T : Hd K mg) : NoAttr K (He.ga K "Call") "line" := He.noat_ok (T.says.fact 12 rfl)
theorem Hd.gl_Switch {K : PySem.W.Frag} {mg : Str → Option Value} (T : Hd K mg) : mg "Switch" = some (.ref (He.ga K "Switch")) := by
  obtain ⟨_, X, G⟩ := T.kin
  exact He.glo_ok X G (T.says.fact 13 rfl)
theorem Hd.cl_Switch {K : PySem.W.Frag} {mg : Str → Option Value} (T : Hd K mg) : Cls K (He.ga K "Switch") := He.cls_ok (T.says.fact 14 rfl)
theorem Hd.mk_Switch {K : PySem.W.Frag} {mg : Str → Option Value} (T : Hd K mg) : Mk K (He.ga K "Switch") (He.ma K (He.ga K "Switch") "__init__") := He.mkr_ok (T.says.fact 15 rfl)
theorem Hd.na_Switch_home {K : PySem.W.Frag} {mg : Str → Option Value} (T : Hd K mg) : NoAttr K (He.ga K "Switch") "home" := He.noat_ok (T.says.fact 16 rfl)
theorem Hd.na_Switch_book {K : PySem.W.Frag} {mg : Str → Option Value} (T : Hd K mg) : NoAttr K (He.ga K "Switch") "book" := He.noat_ok (T.says.fact 17 rfl)
theorem Hd.na_Switch_rows {K : PySem.W.Frag} {mg : Str → Option Value} (T : Hd K mg) : NoAttr K (He.ga K "Switch") "rows" := He.noat_ok (T.says.fact 18 rfl)
theorem Hd.gl_Person {K : PySem.W.Frag} {mg : Str → Option Value} (T : Hd K mg) : mg "Person" = some (.ref (He.ga K "Person")) := by
  obtain ⟨_, X, G⟩ := T.kin
  exact He.glo_ok X G (T.says.fact 19 rfl)
theorem Hd.cl_Person {K : PySem.W.Frag} {mg : Str → Option Value} (T : Hd K mg) : Cls K (He.ga K "Person") := He.cls_ok (T.says.fact 20 rfl)
theorem Hd.mk_Person {K : PySem.W.Frag} {mg : Str → Option Value} (T : Hd K mg) : Mk K (He.ga K "Person") (He.ma K (He.ga K "Person") "__init__") := He.mkr_ok (T.says.fact 21 rfl)
theorem Hd.na_Person_digits {K : PySem.W.Frag} {mg : Str → Option Value} (T : Hd K mg) : NoAttr K (He.ga K "Person") "digits" := He.noat_ok (T.says.fact 22 rfl)
theorem Hd.na_Person_number {K : PySem.W.Frag} {mg : Str → Option Value} (T : Hd K mg) : NoAttr K (He.ga K "Person") "number" := He.noat_ok (T.says.fact 23 rfl)
theorem Hd.na_Person_area {K : PySem.W.Frag} {mg : Str → Option Value} (T : Hd K mg) : NoAttr K (He.ga K "Person") "area" := He.noat_ok (T.says.fact 24 rfl)
theorem Hd.na_Person_numbers {K : PySem.W.Frag} {mg : Str → Option Value} (T : Hd K mg) : NoAttr K (He.ga K "Person") "numbers" := He.noat_ok (T.says.fact 25 rfl)
theorem Hd.gl_Home {K : PySem.W.Frag} {mg : Str → Option Value} (T : Hd K mg) : mg "Home" = some (.ref (He.ga K "Home")) := by
  obtain ⟨_, X, G⟩ := T.kin
  exact He.glo_ok X G (T.says.fact 26 rfl)
theorem Hd.cl_Home {K : PySem.W.Frag} {mg : Str → Option Value} (T : Hd K mg) : Cls K (He.ga K "Home") := He.cls_ok (T.says.fact 27 rfl)
theorem Hd.mk_Home {K : PySem.W.Frag} {mg : Str → Option Value} (T : Hd K mg) : Mk K (He.ga K "Home") (He.ma K (He.ga K "Home") "__init__") := He.mkr_ok (T.says.fact 28 rfl)
theorem Hd.na_Home_rows {K : PySem.W.Frag} {mg : Str → Option Value} (T : Hd K mg) : NoAttr K (He.ga K "Home") "rows" := He.noat_ok (T.says.fact 29 rfl)
theorem Hd.me_Book_begin {K : PySem.W.Frag} {mg : Str → Option Value} (T : Hd K mg) : Meth K (He.ga K "Book") "begin" (He.ma K (He.ga K "Book") "begin") := He.meth_ok (T.says.fact 30 rfl)
theorem Hd.me_Book_end {K : PySem.W.Frag} {mg : Str → Option Value} (T : Hd K mg) : Meth K (He.ga K "Book") "end" (He.ma K (He.ga K "Book") "end") := He.meth_ok (T.says.fact 31 rfl)
theorem Hd.me_Book_lines {K : PySem.W.Frag} {mg : Str → Option Value} (T : Hd K mg) : Meth K (He.ga K "Book") "lines" (He.ma K (He.ga K "Book") "lines") := He.meth_ok (T.says.fact 32 rfl)
theorem Hd.gl_rule_for {K : PySem.W.Frag} {mg : Str → Option Value} (T : Hd K mg) : mg "rule_for" = some (.ref (He.ga K "rule_for")) := by
  obtain ⟨_, X, G⟩ := T.kin
  exact He.glo_ok X G (T.says.fact 33 rfl)
theorem Hd.gl_find_goal {K : PySem.W.Frag} {mg : Str → Option Value} (T : Hd K mg) : mg "find_goal" = some (.ref (He.ga K "find_goal")) := by
  obtain ⟨_, X, G⟩ := T.kin
  exact He.glo_ok X G (T.says.fact 34 rfl)
theorem Hd.me_Call_other {K : PySem.W.Frag} {mg : Str → Option Value} (T : Hd K mg) : Meth K (He.ga K "Call") "other" (He.ma K (He.ga K "Call") "other") := He.meth_ok (T.says.fact 35 rfl)
theorem Hd.gl_refuse {K : PySem.W.Frag} {mg : Str → Option Value} (T : Hd K mg) : mg "refuse" = some (.ref (He.ga K "refuse")) := by
  obtain ⟨_, X, G⟩ := T.kin
  exact He.glo_ok X G (T.says.fact 36 rfl)
theorem Hd.me_Switch_find {K : PySem.W.Frag} {mg : Str → Option Value} (T : Hd K mg) : Meth K (He.ga K "Switch") "find" (He.ma K (He.ga K "Switch") "find") := He.meth_ok (T.says.fact 37 rfl)
theorem Hd.me_Switch_called_in {K : PySem.W.Frag} {mg : Str → Option Value} (T : Hd K mg) : Meth K (He.ga K "Switch") "called_in" (He.ma K (He.ga K "Switch") "called_in") := He.meth_ok (T.says.fact 38 rfl)
theorem Hd.me_Switch_sides {K : PySem.W.Frag} {mg : Str → Option Value} (T : Hd K mg) : Meth K (He.ga K "Switch") "sides" (He.ma K (He.ga K "Switch") "sides") := He.meth_ok (T.says.fact 39 rfl)
theorem Hd.me_Switch_calls {K : PySem.W.Frag} {mg : Str → Option Value} (T : Hd K mg) : Meth K (He.ga K "Switch") "calls" (He.ma K (He.ga K "Switch") "calls") := He.meth_ok (T.says.fact 40 rfl)
theorem Hd.me_Switch_call_of {K : PySem.W.Frag} {mg : Str → Option Value} (T : Hd K mg) : Meth K (He.ga K "Switch") "call_of" (He.ma K (He.ga K "Switch") "call_of") := He.meth_ok (T.says.fact 41 rfl)
theorem Hd.me_Switch_is_leg {K : PySem.W.Frag} {mg : Str → Option Value} (T : Hd K mg) : Meth K (He.ga K "Switch") "is_leg" (He.ma K (He.ga K "Switch") "is_leg") := He.meth_ok (T.says.fact 42 rfl)
theorem Hd.me_Switch_start {K : PySem.W.Frag} {mg : Str → Option Value} (T : Hd K mg) : Meth K (He.ga K "Switch") "start" (He.ma K (He.ga K "Switch") "start") := He.meth_ok (T.says.fact 43 rfl)
theorem Hd.me_Switch_answered {K : PySem.W.Frag} {mg : Str → Option Value} (T : Hd K mg) : Meth K (He.ga K "Switch") "answered" (He.ma K (He.ga K "Switch") "answered") := He.meth_ok (T.says.fact 44 rfl)
theorem Hd.me_Switch_alerting {K : PySem.W.Frag} {mg : Str → Option Value} (T : Hd K mg) : Meth K (He.ga K "Switch") "alerting" (He.ma K (He.ga K "Switch") "alerting") := He.meth_ok (T.says.fact 45 rfl)
theorem Hd.me_Switch_connect {K : PySem.W.Frag} {mg : Str → Option Value} (T : Hd K mg) : Meth K (He.ga K "Switch") "connect" (He.ma K (He.ga K "Switch") "connect") := He.meth_ok (T.says.fact 46 rfl)
theorem Hd.me_Switch_connected {K : PySem.W.Frag} {mg : Str → Option Value} (T : Hd K mg) : Meth K (He.ga K "Switch") "connected" (He.ma K (He.ga K "Switch") "connected") := He.meth_ok (T.says.fact 47 rfl)
theorem Hd.me_Switch_word {K : PySem.W.Frag} {mg : Str → Option Value} (T : Hd K mg) : Meth K (He.ga K "Switch") "word" (He.ma K (He.ga K "Switch") "word") := He.meth_ok (T.says.fact 48 rfl)
theorem Hd.me_Switch_clear {K : PySem.W.Frag} {mg : Str → Option Value} (T : Hd K mg) : Meth K (He.ga K "Switch") "clear" (He.ma K (He.ga K "Switch") "clear") := He.meth_ok (T.says.fact 49 rfl)
theorem Hd.me_Switch_drop {K : PySem.W.Frag} {mg : Str → Option Value} (T : Hd K mg) : Meth K (He.ga K "Switch") "drop" (He.ma K (He.ga K "Switch") "drop") := He.meth_ok (T.says.fact 50 rfl)
theorem Hd.me_Switch_leave {K : PySem.W.Frag} {mg : Str → Option Value} (T : Hd K mg) : Meth K (He.ga K "Switch") "leave" (He.ma K (He.ga K "Switch") "leave") := He.meth_ok (T.says.fact 51 rfl)
theorem Hd.me_Switch_disconnect {K : PySem.W.Frag} {mg : Str → Option Value} (T : Hd K mg) : Meth K (He.ga K "Switch") "disconnect" (He.ma K (He.ga K "Switch") "disconnect") := He.meth_ok (T.says.fact 52 rfl)
theorem Hd.me_Switch_lost {K : PySem.W.Frag} {mg : Str → Option Value} (T : Hd K mg) : Meth K (He.ga K "Switch") "lost" (He.ma K (He.ga K "Switch") "lost") := He.meth_ok (T.says.fact 53 rfl)
theorem Hd.me_Switch_not_reached {K : PySem.W.Frag} {mg : Str → Option Value} (T : Hd K mg) : Meth K (He.ga K "Switch") "not_reached" (He.ma K (He.ga K "Switch") "not_reached") := He.meth_ok (T.says.fact 54 rfl)
theorem Hd.me_Switch_failed {K : PySem.W.Frag} {mg : Str → Option Value} (T : Hd K mg) : Meth K (He.ga K "Switch") "failed" (He.ma K (He.ga K "Switch") "failed") := He.meth_ok (T.says.fact 55 rfl)
theorem Hd.me_Switch_step {K : PySem.W.Frag} {mg : Str → Option Value} (T : Hd K mg) : Meth K (He.ga K "Switch") "step" (He.ma K (He.ga K "Switch") "step") := He.meth_ok (T.says.fact 56 rfl)
theorem Hd.me_Home_add {K : PySem.W.Frag} {mg : Str → Option Value} (T : Hd K mg) : Meth K (He.ga K "Home") "add" (He.ma K (He.ga K "Home") "add") := He.meth_ok (T.says.fact 57 rfl)
theorem Hd.me_Home_find {K : PySem.W.Frag} {mg : Str → Option Value} (T : Hd K mg) : Meth K (He.ga K "Home") "find" (He.ma K (He.ga K "Home") "find") := He.meth_ok (T.says.fact 58 rfl)
theorem Hd.me_Home_with_digits {K : PySem.W.Frag} {mg : Str → Option Value} (T : Hd K mg) : Meth K (He.ga K "Home") "with_digits" (He.ma K (He.ga K "Home") "with_digits") := He.meth_ok (T.says.fact 59 rfl)
theorem Hd.me_Home_with_number {K : PySem.W.Frag} {mg : Str → Option Value} (T : Hd K mg) : Meth K (He.ga K "Home") "with_number" (He.ma K (He.ga K "Home") "with_number") := He.meth_ok (T.says.fact 60 rfl)
theorem Hd.me_Home_number {K : PySem.W.Frag} {mg : Str → Option Value} (T : Hd K mg) : Meth K (He.ga K "Home") "number" (He.ma K (He.ga K "Home") "number") := He.meth_ok (T.says.fact 61 rfl)
theorem Hd.me_Home_area {K : PySem.W.Frag} {mg : Str → Option Value} (T : Hd K mg) : Meth K (He.ga K "Home") "area" (He.ma K (He.ga K "Home") "area") := He.meth_ok (T.says.fact 62 rfl)
theorem Hd.me_Home_set_area {K : PySem.W.Frag} {mg : Str → Option Value} (T : Hd K mg) : Meth K (He.ga K "Home") "set_area" (He.ma K (He.ga K "Home") "set_area") := He.meth_ok (T.says.fact 63 rfl)
theorem Hd.me_Home_forward {K : PySem.W.Frag} {mg : Str → Option Value} (T : Hd K mg) : Meth K (He.ga K "Home") "forward" (He.ma K (He.ga K "Home") "forward") := He.meth_ok (T.says.fact 64 rfl)
theorem Hd.me_Home_set_forward {K : PySem.W.Frag} {mg : Str → Option Value} (T : Hd K mg) : Meth K (He.ga K "Home") "set_forward" (He.ma K (He.ga K "Home") "set_forward") := He.meth_ok (T.says.fact 65 rfl)
theorem Hd.gl_law_mixed {K : PySem.W.Frag} {mg : Str → Option Value} (T : Hd K mg) : mg "_law_mixed" = some (.ref (He.ga K "_law_mixed")) := by
  obtain ⟨_, X, G⟩ := T.kin
  exact He.glo_ok X G (T.says.fact 66 rfl)
theorem Hd.gl_law_cell {K : PySem.W.Frag} {mg : Str → Option Value} (T : Hd K mg) : mg "_law_cell" = some (.ref (He.ga K "_law_cell")) := by
  obtain ⟨_, X, G⟩ := T.kin
  exact He.glo_ok X G (T.says.fact 67 rfl)
theorem Hd.gl_law_number {K : PySem.W.Frag} {mg : Str → Option Value} (T : Hd K mg) : mg "_law_number" = some (.ref (He.ga K "_law_number")) := by
  obtain ⟨_, X, G⟩ := T.kin
  exact He.glo_ok X G (T.says.fact 68 rfl)
theorem Hd.gl_law_pick {K : PySem.W.Frag} {mg : Str → Option Value} (T : Hd K mg) : mg "_law_pick" = some (.ref (He.ga K "_law_pick")) := by
  obtain ⟨_, X, G⟩ := T.kin
  exact He.glo_ok X G (T.says.fact 69 rfl)
theorem Hd.gl_law_home {K : PySem.W.Frag} {mg : Str → Option Value} (T : Hd K mg) : mg "_law_home" = some (.ref (He.ga K "_law_home")) := by
  obtain ⟨_, X, G⟩ := T.kin
  exact He.glo_ok X G (T.says.fact 70 rfl)
theorem Hd.gl_law_goal {K : PySem.W.Frag} {mg : Str → Option Value} (T : Hd K mg) : mg "_law_goal" = some (.ref (He.ga K "_law_goal")) := by
  obtain ⟨_, X, G⟩ := T.kin
  exact He.glo_ok X G (T.says.fact 71 rfl)
theorem Hd.gl_law_find {K : PySem.W.Frag} {mg : Str → Option Value} (T : Hd K mg) : mg "_law_find" = some (.ref (He.ga K "_law_find")) := by
  obtain ⟨_, X, G⟩ := T.kin
  exact He.glo_ok X G (T.says.fact 72 rfl)
theorem Hd.gl_law_leg {K : PySem.W.Frag} {mg : Str → Option Value} (T : Hd K mg) : mg "_law_leg" = some (.ref (He.ga K "_law_leg")) := by
  obtain ⟨_, X, G⟩ := T.kin
  exact He.glo_ok X G (T.says.fact 73 rfl)
theorem Hd.gl_law_sides {K : PySem.W.Frag} {mg : Str → Option Value} (T : Hd K mg) : mg "_law_sides" = some (.ref (He.ga K "_law_sides")) := by
  obtain ⟨_, X, G⟩ := T.kin
  exact He.glo_ok X G (T.says.fact 74 rfl)
theorem Hd.gl_law_refuse {K : PySem.W.Frag} {mg : Str → Option Value} (T : Hd K mg) : mg "_law_refuse" = some (.ref (He.ga K "_law_refuse")) := by
  obtain ⟨_, X, G⟩ := T.kin
  exact He.glo_ok X G (T.says.fact 75 rfl)
theorem Hd.gl_law_drop {K : PySem.W.Frag} {mg : Str → Option Value} (T : Hd K mg) : mg "_law_drop" = some (.ref (He.ga K "_law_drop")) := by
  obtain ⟨_, X, G⟩ := T.kin
  exact He.glo_ok X G (T.says.fact 76 rfl)
theorem Hd.gl_law_start {K : PySem.W.Frag} {mg : Str → Option Value} (T : Hd K mg) : mg "_law_start" = some (.ref (He.ga K "_law_start")) := by
  obtain ⟨_, X, G⟩ := T.kin
  exact He.glo_ok X G (T.says.fact 77 rfl)
theorem Hd.gl_law_called {K : PySem.W.Frag} {mg : Str → Option Value} (T : Hd K mg) : mg "_law_called" = some (.ref (He.ga K "_law_called")) := by
  obtain ⟨_, X, G⟩ := T.kin
  exact He.glo_ok X G (T.says.fact 78 rfl)
theorem Hd.gl_law_connected {K : PySem.W.Frag} {mg : Str → Option Value} (T : Hd K mg) : mg "_law_connected" = some (.ref (He.ga K "_law_connected")) := by
  obtain ⟨_, X, G⟩ := T.kin
  exact He.glo_ok X G (T.says.fact 79 rfl)
theorem Hd.gl_law_other {K : PySem.W.Frag} {mg : Str → Option Value} (T : Hd K mg) : mg "_law_other" = some (.ref (He.ga K "_law_other")) := by
  obtain ⟨_, X, G⟩ := T.kin
  exact He.glo_ok X G (T.says.fact 80 rfl)
theorem Hd.gl_law_word {K : PySem.W.Frag} {mg : Str → Option Value} (T : Hd K mg) : mg "_law_word" = some (.ref (He.ga K "_law_word")) := by
  obtain ⟨_, X, G⟩ := T.kin
  exact He.glo_ok X G (T.says.fact 81 rfl)
theorem Hd.gl_law_leave {K : PySem.W.Frag} {mg : Str → Option Value} (T : Hd K mg) : mg "_law_leave" = some (.ref (He.ga K "_law_leave")) := by
  obtain ⟨_, X, G⟩ := T.kin
  exact He.glo_ok X G (T.says.fact 82 rfl)
theorem Hd.gl_law_not_reached {K : PySem.W.Frag} {mg : Str → Option Value} (T : Hd K mg) : mg "_law_not_reached" = some (.ref (He.ga K "_law_not_reached")) := by
  obtain ⟨_, X, G⟩ := T.kin
  exact He.glo_ok X G (T.says.fact 83 rfl)
theorem Hd.gl_law_failed {K : PySem.W.Frag} {mg : Str → Option Value} (T : Hd K mg) : mg "_law_failed" = some (.ref (He.ga K "_law_failed")) := by
  obtain ⟨_, X, G⟩ := T.kin
  exact He.glo_ok X G (T.says.fact 84 rfl)
theorem Hd.gl_law_step {K : PySem.W.Frag} {mg : Str → Option Value} (T : Hd K mg) : mg "_law_step" = some (.ref (He.ga K "_law_step")) := by
  obtain ⟨_, X, G⟩ := T.kin
  exact He.glo_ok X G (T.says.fact 85 rfl)
theorem Hd.gl_law_word_of {K : PySem.W.Frag} {mg : Str → Option Value} (T : Hd K mg) : mg "_law_word_of" = some (.ref (He.ga K "_law_word_of")) := by
  obtain ⟨_, X, G⟩ := T.kin
  exact He.glo_ok X G (T.says.fact 86 rfl)
theorem Hd.gl_law_change {K : PySem.W.Frag} {mg : Str → Option Value} (T : Hd K mg) : mg "_law_change" = some (.ref (He.ga K "_law_change")) := by
  obtain ⟨_, X, G⟩ := T.kin
  exact He.glo_ok X G (T.says.fact 87 rfl)
theorem Hd.gl_law_choose {K : PySem.W.Frag} {mg : Str → Option Value} (T : Hd K mg) : mg "_law_choose" = some (.ref (He.ga K "_law_choose")) := by
  obtain ⟨_, X, G⟩ := T.kin
  exact He.glo_ok X G (T.says.fact 88 rfl)
theorem Hd.gl_law_due {K : PySem.W.Frag} {mg : Str → Option Value} (T : Hd K mg) : mg "_law_due" = some (.ref (He.ga K "_law_due")) := by
  obtain ⟨_, X, G⟩ := T.kin
  exact He.glo_ok X G (T.says.fact 89 rfl)
theorem Hd.gl_law_actions {K : PySem.W.Frag} {mg : Str → Option Value} (T : Hd K mg) : mg "_law_actions" = some (.ref (He.ga K "_law_actions")) := by
  obtain ⟨_, X, G⟩ := T.kin
  exact He.glo_ok X G (T.says.fact 90 rfl)
theorem Hd.gl_law_agrees {K : PySem.W.Frag} {mg : Str → Option Value} (T : Hd K mg) : mg "_law_agrees" = some (.ref (He.ga K "_law_agrees")) := by
  obtain ⟨_, X, G⟩ := T.kin
  exact He.glo_ok X G (T.says.fact 91 rfl)
theorem Hd.gl_law {K : PySem.W.Frag} {mg : Str → Option Value} (T : Hd K mg) : mg "law" = some (.ref (He.ga K "law")) := by
  obtain ⟨_, X, G⟩ := T.kin
  exact He.glo_ok X G (T.says.fact 92 rfl)
theorem Hd.fr_len {K : PySem.W.Frag} {mg : Str → Option Value} (T : Hd K mg) : mg "len" = none := by
  obtain ⟨_, X, G⟩ := T.kin
  exact He.free_ok X G (T.says.fact 93 rfl)
theorem Hd.fr_list {K : PySem.W.Frag} {mg : Str → Option Value} (T : Hd K mg) : mg "list" = none := by
  obtain ⟨_, X, G⟩ := T.kin
  exact He.free_ok X G (T.says.fact 94 rfl)
theorem Hd.fr_str {K : PySem.W.Frag} {mg : Str → Option Value} (T : Hd K mg) : mg "str" = none := by
  obtain ⟨_, X, G⟩ := T.kin
  exact He.free_ok X G (T.says.fact 95 rfl)
theorem Hd.fr_int {K : PySem.W.Frag} {mg : Str → Option Value} (T : Hd K mg) : mg "int" = none := by
  obtain ⟨_, X, G⟩ := T.kin
  exact He.free_ok X G (T.says.fact 96 rfl)
theorem Hd.fr_tuple {K : PySem.W.Frag} {mg : Str → Option Value} (T : Hd K mg) : mg "tuple" = none := by
  obtain ⟨_, X, G⟩ := T.kin
  exact He.free_ok X G (T.says.fact 97 rfl)
theorem Hd.fr_isinstance {K : PySem.W.Frag} {mg : Str → Option Value} (T : Hd K mg) : mg "isinstance" = none := by
  obtain ⟨_, X, G⟩ := T.kin
  exact He.free_ok X G (T.says.fact 98 rfl)
theorem Hd.fr_range {K : PySem.W.Frag} {mg : Str → Option Value} (T : Hd K mg) : mg "range" = none := by
  obtain ⟨_, X, G⟩ := T.kin
  exact He.free_ok X G (T.says.fact 99 rfl)
theorem Hd.fr_enumerate {K : PySem.W.Frag} {mg : Str → Option Value} (T : Hd K mg) : mg "enumerate" = none := by
  obtain ⟨_, X, G⟩ := T.kin
  exact He.free_ok X G (T.says.fact 100 rfl)
theorem Hd.fr_bool {K : PySem.W.Frag} {mg : Str → Option Value} (T : Hd K mg) : mg "bool" = none := by
  obtain ⟨_, X, G⟩ := T.kin
  exact He.free_ok X G (T.says.fact 101 rfl)
theorem Hd.v_RING {K : PySem.W.Frag} {mg : Str → Option Value} (T : Hd K mg) : ∃ t, mg "RING" = some (.int 16 t) := by
  obtain ⟨_, X, G⟩ := T.kin
  exact He.int_ok X G (T.says.fact 102 rfl)
theorem Hd.v_HOPS {K : PySem.W.Frag} {mg : Str → Option Value} (T : Hd K mg) : ∃ t, mg "HOPS" = some (.int 2 t) := by
  obtain ⟨_, X, G⟩ := T.kin
  exact He.int_ok X G (T.says.fact 103 rfl)
end Mob

set_option Elab.async false
set_option linter.all false
set_option maxRecDepth 100000
set_option maxHeartbeats 4000000
namespace Mob
open PySem PySem.Spec PyProof.Rows L2
/-! ### ghost labels, steps -/
abbrev Lb := Addr → Nat
def setL (L : Lb) (p : Addr) (k : Nat) : Lb := fun b => if b = p then k else L b
theorem setL_same {L : Lb} {p : Addr} {k : Nat} : setL L p k p = k := by unfold setL; rw [if_pos rfl]
theorem setL_ne {L : Lb} {p b : Addr} {k : Nat} (h : b ≠ p) : setL L p k b = L b := by unfold setL; rw [if_neg h]
structure Step (S : Nat → Prop) (L : Lb) (H : Hp) (L' : Lb) (H' : Hp) : Prop where
  lab : ∀ b o, H b = some o → L' b = L b
  keep : ∀ b o, H b = some o → ¬ S (L b) → H' b = some o
  tup : ∀ b xs, H b = some (.tup xs) → H' b = some (.tup xs)
  dom : ∀ b o, H b = some o → ∃ o', H' b = some o'
section
variable {S S' : Nat → Prop} {L L' L'' : Lb} {H H' H'' : Hp} {a b p : Addr} {o o' : HO} {k : Nat}
theorem Step.refl : Step S L H L H := ⟨fun _ _ _ => rfl, fun _ _ h _ => h, fun _ _ h => h, fun _ o h => ⟨o, h⟩⟩
theorem Step.trans (s : Step S L H L' H') (t : Step S L' H' L'' H'') : Step S L H L'' H'' where
  lab := fun b o h => by
    obtain ⟨o', h'⟩ := s.dom b o h
    rw [t.lab b o' h', s.lab b o h]
  keep := fun b o h n => t.keep b o (s.keep b o h n) (by rw [s.lab b o h]; exact n)
  tup := fun b xs h => t.tup b xs (s.tup b xs h)
  dom := fun b o h => by
    obtain ⟨o', h'⟩ := s.dom b o h
    exact t.dom b o' h'
theorem Step.mono (s : Step S L H L' H') (h : ∀ n, S n → S' n) : Step S' L H L' H' := ⟨s.lab, fun b o q n => s.keep b o q fun z => n (h _ z), s.tup, s.dom⟩
theorem Step.same (s : Same H H') : Step S L H L H' := ⟨fun _ _ _ => rfl, fun b o h _ => s b o h, fun b _ h => s b _ h, fun b o h => ⟨o, s b o h⟩⟩
theorem Step.fresh (s : Step S L H L' H') (h : H' p = none) : H p = none := by
  cases e : H p with
  | none => rfl
  | some o =>
    obtain ⟨o', h'⟩ := s.dom p o e
    rw [h] at h'
    cases h'
theorem Step.relab (h : H p = none) : Step S L H (setL L p k) H :=
  ⟨fun b o e => setL_ne (ne_of_none e h), fun _ _ e _ => e, fun _ _ e => e, fun _ o e => ⟨o, e⟩⟩
theorem Step.alloc (h : H p = none) : Step S L H L (upd H p o) := Step.same fun b u e => by
  rw [upd_ne (ne_of_none e h)]
  exact e
theorem Step.write (h : H p = some o) (ht : ∀ xs, o ≠ .tup xs) (hs : S (L p)) : Step S L H L (upd H p o') where
  lab := fun _ _ _ => rfl
  keep := fun b u e n => by
    have : b ≠ p := fun z => n (by rw [z]; exact hs)
    rw [upd_ne this]
    exact e
  tup := fun b xs e => by
    have : b ≠ p := fun z => by
      rw [z, h] at e
      exact ht xs (Option.some.inj e)
    rw [upd_ne this]
    exact e
  dom := fun b u e => by
    by_cases z : b = p
    · exact ⟨o', by rw [z]; exact upd_same⟩
    · exact ⟨u, by rw [upd_ne z]; exact e⟩
theorem same_new (h : H p = none) : Same H (upd H p o) := fun b u e => by
  rw [upd_ne (ne_of_none e h)]
  exact e

/-- a cell: what stands at a, and its label -/
def At (L : Lb) (H : Hp) (k : Nat) (a : Addr) (o : HO) : Prop := H a = some o ∧ L a = k
theorem At.keep (h : At L H k a o) (s : Step S L H L' H') (n : ¬ S k) : At L' H' k a o := ⟨s.keep a o h.1 (by rw [h.2]; exact n), by rw [s.lab a o h.1]; exact h.2⟩
theorem At.same (h : At L H k a o) (s : Same H H') : At L H' k a o := ⟨s a o h.1, h.2⟩
theorem At.new (h : At L H k a o) (hp : H p = none) : At L (upd H p o') k a o := h.same (same_new hp)
theorem At.ne (h : At L H k a o) {k' : Nat} (h' : L b = k') (n : k ≠ k') : a ≠ b := fun e => n (by rw [← h.2, ← h', e])
theorem At.off (h : At L H k a o) {k' : Nat} (h' : L p = k') (n : k ≠ k') : At L (upd H p o') k a o := ⟨by rw [upd_ne (h.ne h' n)]; exact h.1, h.2⟩
theorem At.offA (h : At L H k a o) (n : a ≠ p) : At L (upd H p o') k a o := ⟨by rw [upd_ne n]; exact h.1, h.2⟩
theorem At.at (h : L p = k) : At L (upd H p o') k p o' := ⟨upd_same, h⟩
theorem At.relab (h : At L H k a o) {j : Nat} (hp : H p = none) : At (setL L p j) H k a o := ⟨h.1, by rw [setL_ne (ne_of_none h.1 hp)]; exact h.2⟩

/-! ### heap facts by hand -/
theorem upd_old {x : HO} (h : H a = some o) (hp : H p = none) : upd H p x a = some o := by
  rw [upd_ne (ne_of_none h hp)]
  exact h
theorem upd_off {x : HO} (h : H a = some o) (hp : a ≠ p) : upd H p x a = some o := by
  rw [upd_ne hp]
  exact h
theorem upd_free {x : HO} (h : upd H p x a = none) : H a = none := by
  by_cases e : a = p
  · rw [e, upd_same] at h
    cases h
  · rw [upd_ne e] at h
    exact h
end

/-! ### data that is tuples of flat things -/
def oI : Option Int → V
  | none => .non
  | some i => .int i
def oS : Option Str → V
  | none => .non
  | some i => .str i
def oN : Option Nat → V
  | none => .non
  | some i => .int (i : Int)
mutual
inductive TD (H : Hp) : V → PyData → Prop
  | non : TD H .non .none
  | int (i : Int) : TD H (.int i) (.int i)
  | str (x : Str) : TD H (.str x) (.str x)
  | tup {a : Addr} {xs : List V} {ds : List PyData} : H a = some (.tup xs) → TDs H xs ds → TD H (.ref a) (.tuple ds)
inductive TDs (H : Hp) : List V → List PyData → Prop
  | nil : TDs H [] []
  | cons {v : V} {vs : List V} {d : PyData} {ds : List PyData} : TD H v d → TDs H vs ds → TDs H (v :: vs) (d :: ds)
end
section
variable {K : PySem.W.Frag} {S : Nat → Prop} {L L' : Lb} {H H' : Hp}
mutual
theorem TD.map (s : ∀ b xs, H b = some (.tup xs) → H' b = some (.tup xs)) : ∀ (d : PyData) (v : V), TD H v d → TD H' v d
  | .none, _, h => by cases h; exact .non
  | .bool _, _, h => nomatch h
  | .int i, _, h => by cases h; exact .int i
  | .str x, _, h => by cases h; exact .str x
  | .list _, _, h => nomatch h
  | .tuple ds, _, h => by
    cases h with
    | tup a b => exact .tup (s _ _ a) (TDs.map s ds _ b)
  | .dict _, _, h => nomatch h
theorem TDs.map (s : ∀ b xs, H b = some (.tup xs) → H' b = some (.tup xs)) : ∀ (ds : List PyData) (vs : List V), TDs H vs ds → TDs H' vs ds
  | [], _, h => by cases h; exact .nil
  | d :: ds, _, h => by
    cases h with
    | cons a b => exact .cons (TD.map s d _ a) (TDs.map s ds _ b)
end
mutual
theorem TD.dp : ∀ (d : PyData) (v : V), TD H v d → Dp K H v d
  | .none, _, h => by cases h; exact .non
  | .bool _, _, h => nomatch h
  | .int i, _, h => by cases h; exact .int i
  | .str x, _, h => by cases h; exact .str x
  | .list _, _, h => nomatch h
  | .tuple ds, _, h => by
    cases h with
    | tup a b => exact .tup (SqT.of a) (TDs.dp ds _ b)
  | .dict _, _, h => nomatch h
theorem TDs.dp : ∀ (ds : List PyData) (vs : List V), TDs H vs ds → DpAll K H vs ds
  | [], _, h => by cases h; exact .nil
  | d :: ds, _, h => by
    cases h with
    | cons a b => exact .cons (TD.dp d _ a) (TDs.dp ds _ b)
end
theorem TDs.step {vs : List V} {ds : List PyData} (h : TDs H vs ds) (s : Step S L H L' H') : TDs H' vs ds := TDs.map s.tup _ _ h
theorem TDs.same {vs : List V} {ds : List PyData} (h : TDs H vs ds) (s : Same H H') : TDs H' vs ds := TDs.map (fun b _ q => s b _ q) _ _ h
theorem TD.step {v : V} {d : PyData} (h : TD H v d) (s : Step S L H L' H') : TD H' v d := TD.map s.tup _ _ h
theorem TD.same {v : V} {d : PyData} (h : TD H v d) (s : Same H H') : TD H' v d := TD.map (fun b _ q => s b _ q) _ _ h
theorem TDs.append {vs ws : List V} : ∀ {ds es : List PyData}, TDs H vs ds → TDs H ws es → TDs H (vs ++ ws) (ds ++ es) := by
  induction vs with
  | nil => intro ds es h h'; cases h; exact h'
  | cons v vs ih =>
    intro ds es h h'
    cases h with
    | cons a b => exact .cons a (ih b h')
theorem TDs.length {vs : List V} : ∀ {ds : List PyData}, TDs H vs ds → vs.length = ds.length := by
  induction vs with
  | nil => intro ds h; cases h; rfl
  | cons v vs ih =>
    intro ds h
    cases h with
    | cons a b => rw [List.length_cons, List.length_cons, ih b]
/-- a list of actions, in a list of its own at a label -/
def AL (L : Lb) (H : Hp) (k : Nat) (v : V) (ds : List PyData) : Prop := ∃ p xs, v = .ref p ∧ At L H k p (.lst xs) ∧ TDs H xs ds
theorem AL.keep {k : Nat} {v : V} {ds : List PyData} (h : AL L H k v ds) (s : Step S L H L' H') (n : ¬ S k) : AL L' H' k v ds := by
  obtain ⟨p, xs, e, a, t⟩ := h
  exact ⟨p, xs, e, a.keep s n, t.step s⟩
theorem AL.dp {k : Nat} {v : V} {ds : List PyData} (h : AL L H k v ds) : Dp K H v (.list ds) := by
  obtain ⟨p, xs, rfl, a, t⟩ := h
  exact .lst (SqL.of a.1) (TDs.dp _ _ t)
theorem seq_step {a : Addr} {xs : List V} (s : Step S L H L' H') (h : SqL K H a xs) (n : ¬ S (L a)) : SqL K H' a xs := by
  rcases h with (h | ⟨o, h⟩) | h
  · exact .inl (.inl (s.keep _ _ h n))
  · exact .inl (.inr ⟨o, s.keep _ _ h n⟩)
  · exact .inr h
end
end Mob

set_option Elab.async false
set_option linter.all false
set_option maxRecDepth 100000
set_option maxHeartbeats 4000000
namespace Mob
open PySem PySem.Spec PyProof.Rows L2
abbrev cSw (K : PySem.W.Frag) : Addr := He.ga K "Switch"
abbrev cBk (K : PySem.W.Frag) : Addr := He.ga K "Book"
abbrev cCl (K : PySem.W.Frag) : Addr := He.ga K "Call"
abbrev cPe (K : PySem.W.Frag) : Addr := He.ga K "Person"
abbrev cHo (K : PySem.W.Frag) : Addr := He.ga K "Home"
def swFs (ho bk rl : Addr) : List (Str × V) := [("home", .ref ho), ("book", .ref bk), ("rows", .ref rl)]
def bkFs (bl : Addr) : List (Str × V) := [("rows", .ref bl)]
def callFs (r : CallR) : List (Str × V) := [("caller", .int r.caller), ("called", oI r.called), ("stage", .str r.st.s), ("hops", .int r.hops), ("since", .int r.since), ("line", oN r.line)]
def finV : Option (Int × Int) → List V
  | none => [.non, .non]
  | some (t, c) => [.int t, .int c]
def lineV (l : LineR) : List V := .int l.caller :: .int l.called :: .int l.began :: finV l.fin
structure PA where
  dsw : Addr
  rl : Addr
  bk : Addr
  dbk : Addr
  bl : Addr
structure PN (K : PySem.W.Frag) (L : Lb) (H : Hp) (sw ho : Addr) (A : PA) (ac : List (Addr × CallR)) (al : List (Addr × LineR)) : Prop where
  sw : At L H 5 sw (.ins (cSw K) A.dsw (swFs ho A.bk A.rl))
  rl : At L H 6 A.rl (.lst (ac.map fun x => V.ref x.1))
  bk : At L H 7 A.bk (.ins (cBk K) A.dbk (bkFs A.bl))
  bl : At L H 8 A.bl (.lst (al.map fun x => V.ref x.1))
  calls : ∀ x ∈ ac, ∃ dc, At L H 9 x.1 (.ins (cCl K) dc (callFs x.2))
  lines : ∀ x ∈ al, H x.1 = some (.tup (lineV x.2))
  nd : (ac.map (·.1)).Nodup
def setA {β : Type} (ac : List (Addr × β)) (c : Addr) (r : β) : List (Addr × β) := ac.map fun x => if x.1 = c then (c, r) else x
theorem setA_fst {β : Type} {ac : List (Addr × β)} {c : Addr} {r : β} : (setA ac c r).map (·.1) = ac.map (·.1) := by
  unfold setA
  rw [List.map_map]
  refine List.map_congr_left fun x _ => ?_
  show (if x.1 = c then (c, r) else x).1 = x.1
  split
  · rename_i h; exact h.symm
  · rfl
theorem setA_ref {β : Type} {ac : List (Addr × β)} {c : Addr} {r : β} : (setA ac c r).map (fun x => V.ref x.1) = ac.map (fun x => V.ref x.1) := by
  have h := setA_fst (ac := ac) (c := c) (r := r)
  have e : ∀ l : List (Addr × β), l.map (fun x => V.ref x.1) = (l.map (·.1)).map V.ref := fun l => by rw [List.map_map]; rfl
  rw [e, e, h]
theorem mem_setA {β : Type} {ac : List (Addr × β)} {c : Addr} {r : β} {x : Addr × β} (h : x ∈ setA ac c r) : (x.1 ≠ c ∧ x ∈ ac) ∨ x = (c, r) := by
  unfold setA at h
  obtain ⟨y, hy, e⟩ := List.mem_map.mp h
  by_cases q : y.1 = c
  · rw [if_pos q] at e; exact .inr e.symm
  · rw [if_neg q] at e; exact .inl ⟨by rw [← e]; exact q, by rw [← e]; exact hy⟩
theorem fst_one {β : Type} : ∀ {ac : List (Addr × β)} {x y : Addr × β}, (ac.map (·.1)).Nodup → x ∈ ac → y ∈ ac → x.1 = y.1 → x = y
  | [], _, _, _, h, _, _ => by simp at h
  | a :: r, x, y, hn, hx, hy, e => by
    rw [List.map_cons, List.nodup_cons] at hn
    rcases List.mem_cons.mp hx with ex | hx
    · rcases List.mem_cons.mp hy with ey | hy
      · rw [ex, ey]
      · exact (hn.1 (List.mem_map.mpr ⟨y, hy, by rw [← e, ex]⟩)).elim
    · rcases List.mem_cons.mp hy with ey | hy
      · exact (hn.1 (List.mem_map.mpr ⟨x, hx, by rw [e, ey]⟩)).elim
      · exact fst_one hn.2 hx hy e
section
variable {K : PySem.W.Frag} {S : Nat → Prop} {L L' : Lb} {H H' : Hp} {sw ho : Addr} {A : PA} {ac : List (Addr × CallR)} {al : List (Addr × LineR)}
theorem PN.keep (N : PN K L H sw ho A ac al) (s : Step S L H L' H') (n : ∀ k, 5 ≤ k → k ≤ 9 → ¬ S k) : PN K L' H' sw ho A ac al where
  sw := N.sw.keep s (n 5 (by decide) (by decide))
  rl := N.rl.keep s (n 6 (by decide) (by decide))
  bk := N.bk.keep s (n 7 (by decide) (by decide))
  bl := N.bl.keep s (n 8 (by decide) (by decide))
  calls := fun x hx => (N.calls x hx).imp fun _ h => h.keep s (n 9 (by decide) (by decide))
  lines := fun x hx => s.tup _ _ (N.lines x hx)
  nd := N.nd
theorem PN.same (N : PN K L H sw ho A ac al) (s : Same H H') : PN K L H' sw ho A ac al := N.keep (S := fun _ => False) (Step.same s) fun _ _ _ h => h
theorem PN.setCall (N : PN K L H sw ho A ac al) {c dc : Addr} {r r' : CallR} (hx : (c, r) ∈ ac) : PN K L (upd H c (.ins (cCl K) dc (callFs r'))) sw ho A (setA ac c r') al := by
  obtain ⟨dc0, hc⟩ := N.calls _ hx
  refine ⟨N.sw.off hc.2 (by decide), by rw [setA_ref]; exact N.rl.off hc.2 (by decide), N.bk.off hc.2 (by decide), N.bl.off hc.2 (by decide), fun x hm => ?_, fun x hm => ?_, by rw [setA_fst]; exact N.nd⟩
  · rcases mem_setA hm with ⟨h1, h2⟩ | rfl
    · exact (N.calls x h2).imp fun _ h => h.offA h1
    · exact ⟨dc, At.at hc.2⟩
  · have := N.lines x hm
    exact upd_off this (ne_of this hc.1 (by intro z; cases z))
theorem Step.call (N : PN K L H sw ho A ac al) {c dc : Addr} {r r' : CallR} (hx : (c, r) ∈ ac) (hS : S 9) : Step S L H L (upd H c (.ins (cCl K) dc (callFs r'))) := by
  obtain ⟨dc0, hc⟩ := N.calls _ hx
  exact Step.write hc.1 (by intro _ z; cases z) (by rw [hc.2]; exact hS)
end
def findA (ac : List (Addr × CallR)) (p : Int) : Option (Addr × CallR) := ac.find? fun x => sideB p x.2
theorem findA_snd (ac : List (Addr × CallR)) (p : Int) : (findA ac p).map (·.2) = findC (ac.map (·.2)) p := by
  unfold findA findC
  rw [List.find?_map]
  rfl
theorem findA_mem {ac : List (Addr × CallR)} {p : Int} {x : Addr × CallR} (h : findA ac p = some x) : x ∈ ac := List.mem_of_find?_eq_some h
def refO : Option (Addr × CallR) → V
  | none => .non
  | some x => .ref x.1
/-- a search from left to right, told by the turn -/
theorem find_step {α : Type} {f : α → Bool} {l : List α} {i : Nat} {x : α} (h : l[i]? = some x) (hn : ∀ y ∈ l.take i, f y = false) (hf : f x = false) : ∀ y ∈ l.take (i + 1), f y = false := by
  intro y hy
  have hi : i < l.length := (List.getElem?_eq_some_iff.mp h).1
  rw [List.take_succ, h] at hy
  rcases List.mem_append.mp hy with q | q
  · exact hn y q
  · simp at q; rw [q]; exact hf
theorem find_hit {α : Type} {f : α → Bool} {l : List α} {i : Nat} {x : α} (h : l[i]? = some x) (hn : ∀ y ∈ l.take i, f y = false) (hf : f x = true) : l.find? f = some x := by
  have hi : i < l.length := (List.getElem?_eq_some_iff.mp h).1
  have e : l = l.take i ++ x :: l.drop (i + 1) := by
    have ex : l[i] = x := by
      have := List.getElem?_eq_getElem hi
      rw [h] at this
      exact (Option.some.inj this).symm
    rw [← ex, ← List.drop_eq_getElem_cons hi, List.take_append_drop]
  rw [e, List.find?_append, List.find?_eq_none.mpr fun y hy => by rw [hn y hy]; exact Bool.false_ne_true, List.find?_cons, hf]
  rfl
theorem find_out {α : Type} {f : α → Bool} {l : List α} (hn : ∀ y ∈ l.take l.length, f y = false) : l.find? f = none :=
  List.find?_eq_none.mpr fun y hy => by rw [hn y (by rw [List.take_length]; exact hy)]; exact Bool.false_ne_true
theorem map_at {α β : Type} {f : α → β} {l : List α} {i : Nat} {y : β} (h : (l.map f)[i]? = some y) : ∃ x, l[i]? = some x ∧ y = f x := by
  rw [List.getElem?_map] at h
  cases e : l[i]? with
  | none => rw [e] at h; cases h
  | some x => rw [e] at h; exact ⟨x, rfl, (Option.some.inj h).symm⟩
end Mob

set_option Elab.async false
set_option linter.all false
set_option maxRecDepth 100000
set_option maxHeartbeats 4000000
namespace Mob
open PySem PySem.Spec PyProof.Rows L2
/-! ### what a def hands back -/
/-- a new list of actions; all that stood stands -/
def New (H H' : Hp) (v : V) (ds : List PyData) : Prop := Same H H' ∧ ∃ l xs, v = .ref l ∧ H l = none ∧ H' l = some (.lst xs) ∧ TDs H' xs ds
theorem New.al {L : Lb} {H H' : Hp} {v : V} {ds : List PyData} (h : New H H' v ds) (S : Nat → Prop) : ∃ L', Step S L H L' H' ∧ AL L' H' 0 v ds ∧ (∀ b, H b ≠ none → L' b = L b) := by
  obtain ⟨s, l, xs, rfl, hl, h', t⟩ := h
  refine ⟨setL L l 0, (Step.relab hl).trans (Step.same s), ⟨l, xs, rfl, ⟨h', setL_same⟩, t⟩, fun b hb => setL_ne ?_⟩
  rintro rfl
  exact hb hl
theorem new_nil {H : Hp} {p : Addr} (hp : H p = none) : New H (upd H p (.lst [])) (.ref p) [] := ⟨same_new hp, p, [], rfl, hp, upd_same, .nil⟩
theorem Same.al {L : Lb} {H H' H'' : Hp} {v : V} {ds : List PyData} (s : Same H H') (h : New H' H'' v ds) : New H H'' v ds := by
  obtain ⟨s', l, xs, rfl, hl, h', t⟩ := h
  exact ⟨s.trans s', l, xs, rfl, s.free hl, h', t⟩
def S59 (n : Nat) : Prop := 5 ≤ n ∧ n ≤ 9
theorem no59 {S : Nat → Prop} {k : Nat} (h : ¬ (5 ≤ k ∧ k ≤ 9)) : ¬ S59 k := h
/-- an event of the switch: the actions, the net behind -/
def PPost (K : PySem.W.Frag) (L : Lb) (H : Hp) (sw ho : Addr) (f : List PyData × Net) (Q : VK) : Prop :=
  ∀ (L' : Lb) (H' : Hp) (A' : PA) (ac' : List (Addr × CallR)) (al' : List (Addr × LineR)) (v : V), Step S59 L H L' H' → PN K L' H' sw ho A' ac' al' → ac'.map (·.2) = f.2.cs → al'.map (·.2) = f.2.ls → AL L' H' 0 v f.1 → Q v H'
theorem scal_oI (p : Int) (o : Option Int) : scal (.int p) (oI o) = true := by cases o <;> rfl
theorem scal_oI2 (p : Int) (o : Option Int) : scal (oI o) (.int p) = true := by cases o <;> rfl
theorem side_dec (p : Int) (r : CallR) : sideB p r = (decide (V.int p = V.int r.caller) || decide (V.int p = oI r.called)) := by
  unfold sideB
  cases r.called with
  | none => simp [oI]
  | some g => simp [oI]
theorem bT {b : Bool} (h : ¬ b = true) : b = false := eq_false_of_ne_true h
theorem refO_non {o : Option (Addr × CallR)} : decide (refO o = V.non) = o.isNone := by
  cases o <;> simp [refO]
theorem flat_stg (s : Stg) : flatV (.str s.s) = true := rfl
/-- the state's name among written ones -/
theorem in1 (s t : Stg) : inV (.str s.s) [.str t.s] = decide (s = t) := by
  cases s <;> cases t <;> decide +kernel
theorem in2 (s t u : Stg) : inV (.str s.s) [.str t.s, .str u.s] = (decide (s = t) || decide (s = u)) := by
  cases s <;> cases t <;> cases u <;> decide +kernel
theorem eqStg (s t : Stg) : decide (V.str s.s = V.str t.s) = decide (s = t) := by
  cases s <;> cases t <;> decide +kernel
end Mob

set_option Elab.async false
set_option linter.all false
set_option maxRecDepth 100000
set_option maxHeartbeats 4000000
namespace Mob
open PySem PySem.Spec PyProof.Rows L2
section
variable {P : Program} {w : World} {K : PySem.W.Frag} {mg : Str → Option Value} {base : Heap}
/-! ### Book, Call, refuse -/
def spBkInit (K : PySem.W.Frag) : Sp := sp1 fun a H Q => ∃ (p dx : Addr), a = .ref p ∧ H p = some (.ins (cBk K) dx []) ∧
  ∀ (H' : Hp) (l : Addr), H l = none → H' p = some (.ins (cBk K) dx (bkFs l)) → H' l = some (.lst []) → (∀ b o, H b = some o → b ≠ p → H' b = some o) → Q .non H'
theorem ok_Book_init (T : Hd K mg) : OkD P w K mg base d_Book_init 1 P_Book_init (spBkInit K) := by
  obtain ⟨fd, F⟩ := T.says.def_ 0 (d := d_Book_init) rfl
  refine ⟨fd, F, F.bindsN (ps := P_Book_init) (fun _ _ _ _ _ _ us hl => match us, hl with | [_], _ => rfl), F.ok sc_Book_init (fun vs H Q E h => sp1_len h) (fun cdv A outer s H vs Q E hr h => ?_)⟩
  have hu := hu_of hr
  obtain ⟨a, rfl, p, dx, rfl, hp, k⟩ := h
  refine ⟨_, PSs.nox (pss_one (ps_fld (pv 0) (pe_lst pa_nil) rfl)), ?_⟩
  refine ⟨Nat.zero_le _, fun l hl => ?_⟩
  have npl : p ≠ l := ne_of_none hp hl
  refine ⟨_, rfl, p, cBk K, dx, [], rfl, upd_old hp hl, T.cl_Book, T.na_Book_rows, (by show 0 < 1000; decide), ?_⟩
  exact k _ l hl upd_same (by rw [upd_ne npl.symm, upd_same]) fun b o e nb => by rw [upd_ne nb]; exact upd_old e hl
def spClInit (K : PySem.W.Frag) : Sp := sp4 fun a b c d H Q => ∃ (p dx : Addr) (x y z : Int), a = .ref p ∧ b = .int x ∧ c = .int y ∧ d = .int z ∧ H p = some (.ins (cCl K) dx []) ∧
  ∀ (H' : Hp), H' p = some (.ins (cCl K) dx (callFs ⟨x, some y, .looking, z, 0, none⟩)) → (∀ b o, H b = some o → b ≠ p → H' b = some o) → Q .non H'
theorem ok_Call_init (T : Hd K mg) : OkD P w K mg base d_Call_init 1 P_Call_init (spClInit K) := by
  obtain ⟨fd, F⟩ := T.says.def_ 6 (d := d_Call_init) rfl
  refine ⟨fd, F, F.bindsN (ps := P_Call_init) (fun _ _ _ _ _ _ us hl => match us, hl with | [_, _, _, _], _ => rfl), F.ok sc_Call_init (fun vs H Q E h => sp4_len h) (fun cdv A outer s H vs Q E hr h => ?_)⟩
  have hu := hu_of hr
  obtain ⟨a, b, c, d, rfl, p, dx, x, y, z, rfl, rfl, rfl, rfl, hp, k⟩ := h
  refine ⟨_, PSs.nox (pss_cons (ps_fld (pv 0) (pv 1) rfl) (pss_cons (ps_fld (pv 0) (pv 2) rfl) (pss_cons (ps_fld (pv 0) pe_str rfl) (pss_cons (ps_fld (pv 0) (pv 3) rfl) (pss_cons (ps_fld (pv 0) pe_int rfl) (pss_one (ps_fld (pv 0) pe_non rfl))))))), ?_⟩
  refine ⟨_, rfl, _, rfl, p, cCl K, dx, [], rfl, hp, T.cl_Call, T.na_Call_caller, (by show 0 < 1000; decide), ?_⟩
  refine ⟨_, rfl, _, rfl, p, cCl K, dx, _, rfl, upd_same, T.cl_Call, T.na_Call_called, (by show 1 < 1000; decide), ?_⟩
  refine ⟨_, rfl, p, cCl K, dx, _, rfl, upd_same, T.cl_Call, T.na_Call_stage, (by show 2 < 1000; decide), ?_⟩
  refine ⟨_, rfl, _, rfl, p, cCl K, dx, _, rfl, upd_same, T.cl_Call, T.na_Call_hops, (by show 3 < 1000; decide), ?_⟩
  refine ⟨_, rfl, p, cCl K, dx, _, rfl, upd_same, T.cl_Call, T.na_Call_since, (by show 4 < 1000; decide), ?_⟩
  refine ⟨_, rfl, p, cCl K, dx, _, rfl, upd_same, T.cl_Call, T.na_Call_line, (by show 5 < 1000; decide), ?_⟩
  exact k _ upd_same fun b o e nb => by rw [upd_ne nb, upd_ne nb, upd_ne nb, upd_ne nb, upd_ne nb, upd_ne nb]; exact e
def spOther (K : PySem.W.Frag) : Sp := sp2 fun a b H Q => ∃ (c dc : Addr) (r : CallR) (p : Int), a = .ref c ∧ b = .int p ∧ H c = some (.ins (cCl K) dc (callFs r)) ∧ Q (oI (otherI r p)) H
theorem ok_Call_other (T : Hd K mg) : OkD P w K mg base d_Call_other 1 P_Call_other (spOther K) := by
  obtain ⟨fd, F⟩ := T.says.def_ 7 (d := d_Call_other) rfl
  refine ⟨fd, F, F.bindsN (ps := P_Call_other) (fun _ _ _ _ _ _ us hl => match us, hl with | [_, _], _ => rfl), F.ok sc_Call_other (fun vs H Q E h => sp2_len h) (fun cdv A outer s H vs Q E hr h => ?_)⟩
  have hu := hu_of hr
  obtain ⟨a, b, rfl, c, dc, r, p, rfl, rfl, hc, k⟩ := h
  refine ⟨_, PSs.nox (pss_one (ps_ret (pe_ifExp (pt_cmpR op_eq (pv 1) (pe_fld (pv 0) rfl) (nomark _)) (pe_fld (pv 0) rfl) (pe_fld (pv 0) rfl)))), ?_⟩
  refine ⟨_, rfl, _, rfl, _, _, _, _, _, rfl, hc, T.cl_Call, T.na_Call_caller, rfl, rfl, _, rfl, ?_⟩
  unfold otherI at k
  refine ite2 (fun h1 => ?_) (fun h1 => ?_)
  · rw [if_pos (by simpa using h1)] at k
    exact ⟨_, rfl, _, _, _, _, _, rfl, hc, T.cl_Call, T.na_Call_called, rfl, k⟩
  · rw [if_neg (by simpa using h1)] at k
    exact ⟨_, rfl, _, _, _, _, _, rfl, hc, T.cl_Call, T.na_Call_caller, rfl, k⟩
def spRefuse : Sp := sp2 fun a b H Q => ∃ (p c : Int), a = .int p ∧ b = .int c ∧ ∀ v H', New H H' v (refuseD p c) → Q v H'
theorem ok_refuse (T : Hd K mg) : OkD P w K mg base d_refuse 1 P_refuse (spRefuse) := by
  obtain ⟨fd, F⟩ := T.says.def_ 8 (d := d_refuse) rfl
  refine ⟨fd, F, F.bindsN (ps := P_refuse) (fun _ _ _ _ _ _ us hl => match us, hl with | [_, _], _ => rfl), F.ok sc_refuse (fun vs H Q E h => sp2_len h) (fun cdv A outer s H vs Q E hr h => ?_)⟩
  have hu := hu_of hr
  obtain ⟨a, b, rfl, p, c, rfl, rfl, k⟩ := h
  refine ⟨_, PSs.nox (pss_one (ps_ret (pe_lst (pa_cons (pe_tup (pa_cons pe_str (pa_cons (pv 0) (pa_cons (pe_tup (pa_cons pe_str (pa_cons (pv 1) pa_nil))) pa_nil)))) (pa_cons (pe_tup (pa_cons pe_str (pa_cons (pv 0) pa_nil))) pa_nil))))), ?_⟩
  refine ⟨_, rfl, _, rfl, by show 2 ≤ sizeLine; decide, fun m hm => ⟨by show 3 ≤ sizeLine; decide, fun t ht => ⟨_, rfl, by show 2 ≤ sizeLine; decide, fun u hu => ⟨by show 2 ≤ sizeLine; decide, fun l hl => ?_⟩⟩⟩⟩
  have e1 := upd_old (x := .tup [.str "tell", .int p, .ref m]) (o := .tup [.str "disconnect", .int c]) (p := t) (a := m) upd_same ht
  refine k _ _ ⟨((same_new hm).trans (same_new ht)).trans ((same_new hu).trans (same_new hl)), l, _, rfl, ?_, upd_same, ?_⟩
  · exact upd_free (upd_free (upd_free hl))
  · refine .cons (.tup (upd_old (upd_old upd_same hu) hl) (.cons (.str _) (.cons (.int _) (.cons (.tup (upd_old (upd_old e1 hu) hl) (.cons (.str _) (.cons (.int _) .nil))) .nil)))) (.cons (.tup (upd_old upd_same hl) (.cons (.str _) (.cons (.int _) .nil))) .nil)
end
end Mob

set_option Elab.async false
set_option linter.all false
set_option maxRecDepth 100000
set_option maxHeartbeats 4000000
namespace Mob
open PySem PySem.Spec PyProof.Rows L2
section
variable {P : Program} {w : World} {K : PySem.W.Frag} {mg : Str → Option Value} {base : Heap}
def spFind (K : PySem.W.Frag) : Sp := sp2 fun a b H Q => ∃ (L : Lb) (sw ho : Addr) (A : PA) (ac : List (Addr × CallR)) (al : List (Addr × LineR)) (p : Int), a = .ref sw ∧ b = .int p ∧ PN K L H sw ho A ac al ∧ Q (refO (findA ac p)) H
theorem ok_Switch_find (T : Hd K mg) : OkD P w K mg base d_Switch_find 1 P_Switch_find (spFind K) := by
  obtain ⟨fd, F⟩ := T.says.def_ 10 (d := d_Switch_find) rfl
  refine ⟨fd, F, F.bindsN (ps := P_Switch_find) (fun _ _ _ _ _ _ us hl => match us, hl with | [_, _], _ => rfl), F.ok sc_Switch_find (fun vs H Q E h => sp2_len h) (fun cdv A outer s H vs Q E hr h => ?_)⟩
  have hu := hu_of hr
  obtain ⟨a, b, rfl, L, sw, ho, B, ac, al, p, rfl, rfl, N, k⟩ := h
  refine ⟨_, PSs.nox (pss_cons (ps_for PassesOwn.never rfl (pi_list (pe_fld (pv 0) rfl)) (pg_name (i := 2) sc_Switch_find.nd rfl (Or.inl rfl)) (pss_one (ps_if ((pw_or (pt_cmpR op_eq (pv 1) (pe_fld (pv 2) rfl) (nomark _)) (pw_or1 (pt_cmpR op_eq (pv 1) (pe_fld (pv 2) rfl) (nomark _))))).pt (pss_one (ps_ret (pv 2))) pss_nil))) (pss_one (ps_ret pe_non))), ?_⟩
  refine ⟨_, rfl, _, cSw K, _, _, _, rfl, N.sw.1, T.cl_Switch, T.na_Switch_rows, rfl, _, rfl, ⟨_, SqL.of N.rl.1⟩, for_list (K := K) (a := B.rl) (xs := ac.map fun x => V.ref x.1) (fun i σ H2 => H2 = H ∧ ∃ v, σ = [some (.ref sw), some (.int p), v] ∧ ∀ y ∈ ac.take i, sideB p y.2 = false)
    ⟨rfl, none, rfl, by simp⟩ (fun i σ H2 _ h => by rw [h.1]; exact SqL.of N.rl.1) ?_ ?_⟩
  · rintro i x σ H2 hi ⟨rfl, v, rfl, hn⟩
    obtain ⟨y, hy, rfl⟩ := map_at hi
    obtain ⟨dc, hc⟩ := N.calls y (List.mem_of_getElem? hy)
    have hs := side_dec p y.2
    refine ⟨_, rfl, _, rfl, _, _, _, _, _, rfl, hc.1, T.cl_Call, T.na_Call_caller, rfl, rfl, _, rfl, ?_⟩
    refine ite2 (fun h1 => iteT ?_) (fun h1 => ?_)
    · rw [h1, Bool.true_or] at hs
      refine ⟨_, rfl, ?_⟩
      have e : findA ac p = some y := find_hit (f := fun x : Addr × CallR => sideB p x.2) hy hn hs
      rw [e] at k
      exact k
    · rw [eq_false_of_ne_true h1, Bool.false_or] at hs
      refine ⟨_, rfl, _, rfl, _, _, _, _, _, rfl, hc.1, T.cl_Call, T.na_Call_called, rfl, scal_oI _ _, _, rfl, ?_⟩
      refine ite2 (fun h2 => ?_) (fun h2 => ?_)
      · rw [h2] at hs
        refine ⟨_, rfl, ?_⟩
        have e : findA ac p = some y := find_hit (f := fun x : Addr × CallR => sideB p x.2) hy hn hs
        rw [e] at k
        exact k
      · rw [eq_false_of_ne_true h2] at hs
        exact ⟨rfl, _, rfl, find_step (f := fun x : Addr × CallR => sideB p x.2) hy hn hs⟩
  · rintro σ H2 ⟨rfl, v, rfl, hn⟩
    have e : findA ac p = none := find_out (f := fun x : Addr × CallR => sideB p x.2) (by simpa using hn)
    rw [e] at k
    exact k
/-- the call of which p is the called one, in a state that ok names -/
def calledA (ac : List (Addr × CallR)) (p : Int) (ok : CallR → Bool) : Option (Addr × CallR) := match findA ac p with
  | none => none
  | some x => if x.2.called = some p ∧ ok x.2 = true then some x else none
def spCalledIn (K : PySem.W.Frag) : Sp := sp3 fun a b c H Q => ∃ (L : Lb) (sw ho : Addr) (A : PA) (ac : List (Addr × CallR)) (al : List (Addr × LineR)) (p : Int) (t : Addr) (ss : List V) (ok : CallR → Bool), a = .ref sw ∧ b = .int p ∧ c = .ref t ∧ PN K L H sw ho A ac al ∧
  H t = some (.tup ss) ∧ ss.all flatV = true ∧ (∀ r : CallR, inV (.str r.st.s) ss = ok r) ∧ Q (refO (calledA ac p ok)) H
theorem oI_eq (o : Option Int) (p : Int) : decide (oI o = V.int p) = decide (o = some p) := by
  cases o with
  | none => simp [oI]
  | some g => simp [oI]
theorem ok_Switch_called_in (T : Hd K mg) : OkD P w K mg base d_Switch_called_in 2 P_Switch_called_in (spCalledIn K) := by
  obtain ⟨fd, F⟩ := T.says.def_ 11 (d := d_Switch_called_in) rfl
  obtain ⟨_, F_Switch_find, b_Switch_find, G_Switch_find⟩ := ok_Switch_find (P := P) (w := w) (base := base) T
  refine ⟨fd, F, F.bindsN (ps := P_Switch_called_in) (fun _ _ _ _ _ _ us hl => match us, hl with | [_, _, _], _ => rfl), F.ok sc_Switch_called_in (fun vs H Q E h => sp3_len h) (fun cdv A outer s H vs Q E hr h => ?_)⟩
  have hu := hu_of hr
  obtain ⟨a, b, c, rfl, L, sw, ho, B, ac, al, p, t, ss, ok, rfl, rfl, rfl, N, ht, hfl, hok, k⟩ := h
  refine ⟨_, PSs.nox (pss_cons (ps_set (i := 3) sc_Switch_called_in.nd rfl (Or.inl rfl) (pe_meth (pv 0) T.cl_Switch T.me_Switch_find G_Switch_find (hr.mono (by decide)) b_Switch_find .nil pass0 (pa_cons (pv 1) pa_nil))) (pss_cons (ps_if ((pw_or (pt_cmpR op_isN (pv 3) pe_non (nomark _)) (pw_or (pt_cmpR op_ne (pe_fld (pv 3) rfl) (pv 1) (nomark _)) (pw_or1 (pt_cmpR op_notIn_seq (pe_fld (pv 3) rfl) (pv 2) rfl))))).pt (pss_one (ps_ret pe_non)) pss_nil) (pss_one (ps_ret (pv 3))))), ?_⟩
  refine ⟨_, rfl, sw, _, _, rfl, N.sw.1, rfl, _, rfl, _, _, rfl, L, sw, ho, B, ac, al, p, rfl, rfl, N, ?_⟩
  cases e : findA ac p with
  | none =>
    have ec : calledA ac p ok = none := by simp [calledA, e]
    rw [ec] at k
    refine ⟨_, rfl, rfl, _, rfl, ?_⟩
    refine iteT (iteT ?_)
    exact k
  | some x =>
    obtain ⟨dc, hc⟩ := N.calls x (findA_mem e)
    refine ⟨_, rfl, rfl, _, rfl, ?_⟩
    refine iteF ?_
    refine ⟨_, rfl, _, _, _, _, _, rfl, hc.1, T.cl_Call, T.na_Call_called, rfl, _, rfl, scal_oI2 _ _, _, rfl, ?_⟩
    rw [oI_eq]
    by_cases h1 : x.2.called = some p
    · rw [decide_eq_true h1]
      refine iteF ?_
      refine ⟨_, rfl, _, _, _, _, _, rfl, hc.1, T.cl_Call, T.na_Call_stage, rfl, _, rfl, _, _, rfl, .inr (SqT.of ht), rfl, hfl, _, rfl, ?_⟩
      show (if (!inV (.str x.2.st.s) ss) = true then _ else _)
      rw [hok]
      cases h2 : ok x.2 with
      | true =>
        have ec : calledA ac p ok = some x := by simp [calledA, e, h1, h2]
        rw [ec] at k
        refine iteF ?_
        exact ⟨_, rfl, k⟩
      | false =>
        have ec : calledA ac p ok = none := by simp [calledA, e, h2]
        rw [ec] at k
        refine iteT ?_
        exact k
    · rw [decide_eq_false h1]
      have ec : calledA ac p ok = none := by simp [calledA, e, h1]
      rw [ec] at k
      refine iteT (iteT ?_)
      exact k
end
end Mob

set_option Elab.async false
set_option linter.all false
set_option maxRecDepth 100000
set_option maxHeartbeats 4000000
namespace Mob
open PySem PySem.Spec PyProof.Rows L2
section
variable {P : Program} {w : World} {K : PySem.W.Frag} {mg : Str → Option Value} {base : Heap}
/-! ### Book: begin, end, lines -/
def spBegin (K : PySem.W.Frag) : Sp := sp4 fun a b c d H Q => ∃ (bk dbk bl : Addr) (rows : List V) (x y t : Int), a = .ref bk ∧ b = .int x ∧ c = .int y ∧ d = .int t ∧ H bk = some (.ins (cBk K) dbk (bkFs bl)) ∧ H bl = some (.lst rows) ∧ rows.length ≤ 1000 ∧
  ∀ tp, H tp = none → Q (.int (rows.length : Int)) (upd (upd H tp (.tup (lineV ⟨x, y, t, none⟩))) bl (.lst (rows ++ [.ref tp])))
theorem ok_Book_begin (T : Hd K mg) : OkD P w K mg base d_Book_begin 1 P_Book_begin (spBegin K) := by
  obtain ⟨fd, F⟩ := T.says.def_ 1 (d := d_Book_begin) rfl
  refine ⟨fd, F, F.bindsN (ps := P_Book_begin) (fun _ _ _ _ _ _ us hl => match us, hl with | [_, _, _, _], _ => rfl), F.ok sc_Book_begin (fun vs H Q E h => sp4_len h) (fun cdv A outer s H vs Q E hr h => ?_)⟩
  have hu := hu_of hr
  obtain ⟨a, b, c, d, rfl, bk, dbk, bl, rows, x, y, t, rfl, rfl, rfl, rfl, hk, hb, hl, k⟩ := h
  refine ⟨_, PSs.nox (pss_cons (ps_expr (pe_bm PySem.F.plainAttrs_list PySem.F.slot_list_append PySem.F.type_list_append mt_append (pe_fld (pv 0) rfl) (pa_cons (pe_tup (pa_cons (pv 1) (pa_cons (pv 2) (pa_cons (pv 3) (pa_cons pe_non (pa_cons pe_non pa_nil)))))) pa_nil))) (pss_one (ps_ret (pe_op op_sub (pe_callB call_len_seq (by rfl) T.fr_len PySem.boot_len (pa_cons (pe_fld (pv 0) rfl) pa_nil)) pe_int)))), ?_⟩
  refine ⟨_, rfl, _, cBk K, _, _, _, rfl, hk, T.cl_Book, T.na_Book_rows, rfl, .inl ⟨rfl, _, SqL.of hb⟩, _, rfl, _, rfl, _, rfl, by show 5 ≤ sizeLine; decide, fun tp ht => ?_⟩
  have nbt : bl ≠ tp := ne_of_none hb ht
  refine ⟨bl, rows, _, rfl, rfl, upd_old hb ht, small1000 hl, ?_⟩
  refine ⟨_, rfl, _, cBk K, _, _, _, rfl, upd_off (upd_old hk ht) (ne_of hk hb (by intro z; cases z)), T.cl_Book, T.na_Book_rows, rfl, _, _, rfl, .inl (SqL.of upd_same), _, _, rfl, rfl, ?_⟩
  have e : (((rows ++ [V.ref tp]).length : Nat) : Int) - 1 = (rows.length : Int) := by rw [List.length_append, List.length_singleton]; omega
  show Q (.int ((((rows ++ [V.ref tp]).length : Nat) : Int) - 1)) _
  rw [e]
  exact k tp ht
def spEnd (K : PySem.W.Frag) : Sp := sp4 fun a b c d H Q => ∃ (bk dbk bl tp : Addr) (rows : List V) (i : Nat) (l : LineR) (t e : Int), a = .ref bk ∧ b = .int (i : Int) ∧ c = .int t ∧ d = .int e ∧ H bk = some (.ins (cBk K) dbk (bkFs bl)) ∧ H bl = some (.lst rows) ∧
  rows[i]? = some (.ref tp) ∧ H tp = some (.tup (lineV l)) ∧ l.fin = none ∧ ∀ t2, H t2 = none → Q .non (upd (upd H t2 (.tup (lineV { l with fin := some (t, e) }))) bl (.lst (rows.set i (.ref t2))))
theorem ixN_nat {n i : Nat} (h : i < n) : ixN n (i : Int) = some i := by
  unfold ixN
  rw [if_pos (by omega), if_pos (by omega)]
  simp
theorem ok_Book_end (T : Hd K mg) : OkD P w K mg base d_Book_end 1 P_Book_end (spEnd K) := by
  obtain ⟨fd, F⟩ := T.says.def_ 2 (d := d_Book_end) rfl
  refine ⟨fd, F, F.bindsN (ps := P_Book_end) (fun _ _ _ _ _ _ us hl => match us, hl with | [_, _, _, _], _ => rfl), F.ok sc_Book_end (fun vs H Q E h => sp4_len h) (fun cdv A outer s H vs Q E hr h => ?_)⟩
  have hu := hu_of hr
  obtain ⟨a, b, c, d, rfl, bk, dbk, bl, tp, rows, i, l, t, e, rfl, rfl, rfl, rfl, hk, hb, hi, ht, hf, k⟩ := h
  obtain ⟨x, y, z, f⟩ := l
  obtain rfl : f = none := hf
  refine ⟨_, PSs.nox (pss_cons (ps_asg (pe_ix ix_list (pe_fld (pv 0) rfl) (pv 1) (fun _ _ => rfl)) (pg_tup rfl (pgs_cons (pg_name (i := 4) sc_Book_end.nd rfl (Or.inl rfl)) (pgs_cons (pg_name (i := 5) sc_Book_end.nd rfl (Or.inl rfl)) (pgs_cons (pg_name (i := 6) sc_Book_end.nd rfl (Or.inl rfl)) (pgs_cons (pg_name (i := 7) sc_Book_end.nd rfl (Or.inl rfl)) (pgs_cons (pg_name (i := 8) sc_Book_end.nd rfl (Or.inl rfl)) pgs_nil))))))) (pss_cons (ps_if (pt_cmpR op_notN (pv 7) pe_non (nomark _)) (pss_one ps_never) pss_nil) (pss_one (ps_asg (pe_tup (pa_cons (pv 4) (pa_cons (pv 5) (pa_cons (pv 6) (pa_cons (pv 2) (pa_cons (pv 3) pa_nil)))))) (pg_sub (pe_fld (pv 0) rfl) (pv 1) set_list))))), ?_⟩
  refine ⟨_, rfl, _, cBk K, _, _, _, rfl, hk, T.cl_Book, T.na_Book_rows, rfl, _, rfl, bl, rows, _, _, rfl, rfl, SqL.of hb, atI_nat hi, ?_⟩
  refine ⟨tp, _, rfl, SqT.of ht, rfl, _, _, rfl, _, _, rfl, _, _, rfl, _, _, rfl, _, _, rfl, rfl, ?_⟩
  refine ⟨_, rfl, rfl, _, rfl, iteF ?_⟩
  refine ⟨_, rfl, _, rfl, _, rfl, _, rfl, _, rfl, by show 5 ≤ sizeLine; decide, fun t2 h2 => ?_⟩
  refine ⟨_, rfl, _, cBk K, _, _, _, rfl, upd_old hk h2, T.cl_Book, T.na_Book_rows, rfl, _, rfl, bl, rows, _, i, rfl, rfl, upd_old hb h2, ixN_nat (List.getElem?_eq_some_iff.mp hi).1, ?_⟩
  exact k t2 h2
def spLines (K : PySem.W.Frag) : Sp := sp1 fun a H Q => ∃ (bk dbk bl : Addr) (rows : List V), a = .ref bk ∧ H bk = some (.ins (cBk K) dbk (bkFs bl)) ∧ H bl = some (.lst rows) ∧ ∀ l, H l = none → Q (.ref l) (upd H l (.lst rows))
theorem ok_Book_lines (T : Hd K mg) : OkD P w K mg base d_Book_lines 1 P_Book_lines (spLines K) := by
  obtain ⟨fd, F⟩ := T.says.def_ 3 (d := d_Book_lines) rfl
  refine ⟨fd, F, F.bindsN (ps := P_Book_lines) (fun _ _ _ _ _ _ us hl => match us, hl with | [_], _ => rfl), F.ok sc_Book_lines (fun vs H Q E h => sp1_len h) (fun cdv A outer s H vs Q E hr h => ?_)⟩
  have hu := hu_of hr
  obtain ⟨a, rfl, bk, dbk, bl, rows, rfl, hk, hb, k⟩ := h
  refine ⟨_, PSs.nox (pss_one (ps_ret (pe_callTy call_list_of (by rfl) T.fr_list (by decide +kernel) (pa_cons (pe_fld (pv 0) rfl) pa_nil)))), ?_⟩
  exact ⟨_, rfl, _, cBk K, _, _, _, rfl, hk, T.cl_Book, T.na_Book_rows, rfl, bl, rows, rfl, .inl (SqL.of hb), k⟩
end
end Mob

set_option Elab.async false
set_option linter.all false
set_option maxRecDepth 100000
set_option maxHeartbeats 4000000
namespace Mob
open PySem PySem.Spec PyProof.Rows L2
section
variable {P : Program} {w : World} {K : PySem.W.Frag} {mg : Str → Option Value} {base : Heap}
/-! ### Switch: questions -/
def dI : Option Int → PyData
  | none => .none
  | some i => .int i
def callD (r : CallR) : PyData := .tuple [.int r.caller, dI r.called, .str r.st.s]
theorem td_oI {H : Hp} (o : Option Int) : TD H (oI o) (dI o) := by
  cases o with
  | none => exact .non
  | some i => exact .int i
def sidesV (cs : List CallR) : List V := cs.flatMap fun r => [.int r.caller, oI r.called]
theorem sidesV_take {cs : List CallR} {i : Nat} {r : CallR} (h : cs[i]? = some r) : sidesV (cs.take (i + 1)) = sidesV (cs.take i) ++ [.int r.caller, oI r.called] := by
  unfold sidesV
  rw [List.take_succ, h, List.flatMap_append]
  rfl
theorem sidesV_len (cs : List CallR) : (sidesV cs).length = 2 * cs.length := by
  unfold sidesV
  induction cs with
  | nil => rfl
  | cons r cs ih =>
    rw [List.flatMap_cons, List.length_append, ih]
    simp only [List.length_cons, List.length_nil]
    omega
theorem same_mut {H H' : Hp} {p : Addr} {o : HO} (s : Same H H') (h : H p = none) : Same H (upd H' p o) := fun b u e => by
  rw [upd_ne (ne_of_none e h)]
  exact s b u e
def spSides (K : PySem.W.Frag) : Sp := sp1 fun a H Q => ∃ (L : Lb) (sw ho : Addr) (A : PA) (ac : List (Addr × CallR)) (al : List (Addr × LineR)), a = .ref sw ∧ PN K L H sw ho A ac al ∧ ac.length ≤ 1000 ∧
  ∀ l H', Same H H' → H l = none → H' l = some (.lst (sidesV (ac.map (·.2)))) → Q (.ref l) H'
theorem ok_Switch_sides (T : Hd K mg) : OkD P w K mg base d_Switch_sides 1 P_Switch_sides (spSides K) := by
  obtain ⟨fd, F⟩ := T.says.def_ 12 (d := d_Switch_sides) rfl
  refine ⟨fd, F, F.bindsN (ps := P_Switch_sides) (fun _ _ _ _ _ _ us hl => match us, hl with | [_], _ => rfl), F.ok sc_Switch_sides (fun vs H Q E h => sp1_len h) (fun cdv A outer s H vs Q E hr h => ?_)⟩
  have hu := hu_of hr
  obtain ⟨a, rfl, L, sw, ho, B, ac, al, rfl, N, hlen, k⟩ := h
  refine ⟨_, PSs.nox (pss_cons (ps_set (i := 1) sc_Switch_sides.nd rfl (Or.inl rfl) (pe_lst pa_nil)) (pss_cons (ps_for PassesOwn.never rfl (pi_list (pe_fld (pv 0) rfl)) (pg_name (i := 2) sc_Switch_sides.nd rfl (Or.inl rfl)) (pss_one (ps_expr (pe_bm PySem.F.plainAttrs_list PySem.F.slot_list_extend PySem.F.type_list_extend mt_extend (pv 1) (pa_cons (pe_lst (pa_cons (pe_fld (pv 2) rfl) (pa_cons (pe_fld (pv 2) rfl) pa_nil))) pa_nil))))) (pss_one (ps_ret (pv 1))))), ?_⟩
  refine ⟨Nat.zero_le _, fun l hl => ?_⟩
  have hrl := upd_old (x := .lst []) N.rl.1 hl
  refine ⟨_, rfl, _, cSw K, _, _, _, rfl, upd_old N.sw.1 hl, T.cl_Switch, T.na_Switch_rows, rfl, _, rfl, ⟨_, SqL.of hrl⟩, for_list (K := K) (a := B.rl) (xs := ac.map fun x => V.ref x.1)
    (fun i σ H2 => Same H H2 ∧ H2 l = some (.lst (sidesV ((ac.map (·.2)).take i))) ∧ ∃ v, σ = [some (.ref sw), some (.ref l), v])
    ⟨same_new hl, upd_same, none, rfl⟩ (fun i σ H2 _ h => SqL.of (h.1 _ _ N.rl.1)) ?_ ?_⟩
  · rintro i x σ H2 hi ⟨s2, hl2, v, rfl⟩
    obtain ⟨y, hy, rfl⟩ := map_at hi
    obtain ⟨dc, hc⟩ := N.calls y (List.mem_of_getElem? hy)
    have hc2 := s2 _ _ hc.1
    have hil := (List.getElem?_eq_some_iff.mp hy).1
    have hyc : (ac.map (·.2))[i]? = some y.2 := by rw [List.getElem?_map, hy]; rfl
    refine ⟨_, rfl, .inl ⟨rfl, _, SqL.of hl2⟩, _, rfl, _, _, _, _, _, rfl, hc2, T.cl_Call, T.na_Call_caller, rfl, _, rfl, _, _, _, _, _, rfl, hc2, T.cl_Call, T.na_Call_called, rfl, by show 2 ≤ sizeLine; decide, fun d hd => ?_⟩
    refine ⟨l, d, _, _, rfl, rfl, upd_old hl2 hd, upd_same, ?_, ?_⟩
    · rw [sidesV_len, List.length_take, List.length_map]
      show 2 * min i ac.length + 2 ≤ sizeLine
      exact Nat.le_trans (show 2 * min i ac.length + 2 ≤ 3000 by omega) (by decide)
    · exact ⟨same_mut (s2.trans (same_new hd)) hl, by rw [upd_same, sidesV_take hyc], _, rfl⟩
  · rintro σ H2 ⟨s2, hl2, v, rfl⟩
    refine ⟨_, rfl, ?_⟩
    refine k l H2 s2 hl ?_
    rw [hl2, List.take_of_length_le (by simp)]
def spCalls (K : PySem.W.Frag) : Sp := sp1 fun a H Q => ∃ (L : Lb) (sw ho : Addr) (A : PA) (ac : List (Addr × CallR)) (al : List (Addr × LineR)), a = .ref sw ∧ PN K L H sw ho A ac al ∧ ac.length ≤ 1000 ∧
  ∀ v H', New H H' v (ac.map fun x => callD x.2) → Q v H'
theorem ok_Switch_calls (T : Hd K mg) : OkD P w K mg base d_Switch_calls 1 P_Switch_calls (spCalls K) := by
  obtain ⟨fd, F⟩ := T.says.def_ 13 (d := d_Switch_calls) rfl
  refine ⟨fd, F, F.bindsN (ps := P_Switch_calls) (fun _ _ _ _ _ _ us hl => match us, hl with | [_], _ => rfl), F.ok sc_Switch_calls (fun vs H Q E h => sp1_len h) (fun cdv A outer s H vs Q E hr h => ?_)⟩
  have hu := hu_of hr
  obtain ⟨a, rfl, L, sw, ho, B, ac, al, rfl, N, hlen, k⟩ := h
  refine ⟨_, PSs.nox (pss_one (ps_ret (pe_lc (own := [("call", 1)]) (g := gName 1) (tt := tYes) rfl sc_Switch_calls.nd (pi_list (pe_fld (pv 0) rfl)) (blkOk_by (own := [("call", 1)]) (N := N_Switch_calls) (sc := defScope s_Switch_calls) (by decide +kernel)) (fun _ _ _ _ _ => pg_name (i := 1) sc_Switch_calls.nd rfl (Or.inl rfl)) (fun _ _ _ _ _ => pts_nil) (fun _ _ _ _ _ => (pe_tup (pa_cons (pe_fldK (K := K) (pv 1) (by rfl) (by rfl)) (pa_cons (pe_fldK (K := K) (pv 1) (by rfl) (by rfl)) (pa_cons (pe_fldK (K := K) (pv 1) (by rfl) (by rfl)) pa_nil)))))))), ?_⟩
  refine ⟨_, rfl, _, cSw K, _, _, _, rfl, N.sw.1, T.cl_Switch, T.na_Switch_rows, rfl, _, rfl, ⟨_, SqL.of N.rl.1⟩, fun D hD => lc_list (K := K) (a := B.rl) (xs := ac.map fun x => V.ref x.1)
    (fun i H2 => Same H H2 ∧ ∃ xs, H2 D = some (.lst xs) ∧ TDs H2 xs ((ac.map fun x => callD x.2).take i)) ⟨same_new hD, [], upd_same, .nil⟩ (fun i H2 _ h => SqL.of (h.1 _ _ N.rl.1)) ?_ ?_⟩
  · rintro i x H2 hi ⟨s2, xs, h2, t2⟩
    obtain ⟨y, hy, rfl⟩ := map_at hi
    obtain ⟨dc, hc⟩ := N.calls y (List.mem_of_getElem? hy)
    have hc2 := s2 _ _ hc.1
    have hyc : (ac.map fun x => callD x.2)[i]? = some (callD y.2) := by rw [List.getElem?_map, hy]; rfl
    refine ⟨rfl, ?_⟩
    refine ⟨_, rfl, _, _, _, _, _, rfl, hc2, T.cl_Call, T.na_Call_caller, rfl, _, rfl, _, _, _, _, _, rfl, hc2, T.cl_Call, T.na_Call_called, rfl, _, rfl, _, _, _, _, _, rfl, hc2, T.cl_Call, T.na_Call_stage, rfl, by show 3 ≤ sizeLine; decide, fun t ht => ?_⟩
    have hxl : xs.length = i := by
      rw [t2.length, List.length_take, List.length_map]
      have := (List.getElem?_eq_some_iff.mp hy).1
      omega
    have hil := (List.getElem?_eq_some_iff.mp hy).1
    refine ⟨xs, upd_old h2 ht, small1000 (by omega), same_mut (s2.trans (same_new ht)) hD, _, upd_same, ?_⟩
    have nDt : t ≠ D := fun z => by rw [z, h2] at ht; cases ht
    have key : ∀ b zs, H2 b = some (.tup zs) → upd (upd H2 t (.tup [.int y.2.caller, oI y.2.called, .str y.2.st.s])) D (.lst (xs ++ [.ref t])) b = some (.tup zs) := fun b zs q => by
      rw [upd_ne (ne_of q h2 (by intro z; cases z))]
      exact upd_old q ht
    rw [List.take_succ, hyc]
    refine TDs.append (TDs.map key _ _ t2) (.cons (.tup (by rw [upd_ne nDt]; exact upd_same) (.cons (.int _) (.cons (td_oI _) (.cons (.str _) .nil)))) .nil)
  · rintro H2 ⟨s2, xs, h2, t2⟩
    refine k _ _ ⟨s2, D, xs, rfl, hD, h2, ?_⟩
    rw [List.take_of_length_le (by simp)] at t2
    exact t2
def spCallOf (K : PySem.W.Frag) : Sp := sp2 fun a b H Q => ∃ (L : Lb) (sw ho : Addr) (A : PA) (ac : List (Addr × CallR)) (al : List (Addr × LineR)) (p : Int), a = .ref sw ∧ b = .int p ∧ PN K L H sw ho A ac al ∧
  (findA ac p = none → Q .non H) ∧ (∀ x, findA ac p = some x → ∀ H' t, Same H H' → TD H' (.ref t) (callD x.2) → Q (.ref t) H')
theorem ok_Switch_call_of (T : Hd K mg) : OkD P w K mg base d_Switch_call_of 2 P_Switch_call_of (spCallOf K) := by
  obtain ⟨fd, F⟩ := T.says.def_ 14 (d := d_Switch_call_of) rfl
  obtain ⟨_, F_Switch_find, b_Switch_find, G_Switch_find⟩ := ok_Switch_find (P := P) (w := w) (base := base) T
  refine ⟨fd, F, F.bindsN (ps := P_Switch_call_of) (fun _ _ _ _ _ _ us hl => match us, hl with | [_, _], _ => rfl), F.ok sc_Switch_call_of (fun vs H Q E h => sp2_len h) (fun cdv A outer s H vs Q E hr h => ?_)⟩
  have hu := hu_of hr
  obtain ⟨a, b, rfl, L, sw, ho, B, ac, al, p, rfl, rfl, N, k0, k1⟩ := h
  refine ⟨_, PSs.nox (pss_cons (ps_set (i := 2) sc_Switch_call_of.nd rfl (Or.inl rfl) (pe_meth (pv 0) T.cl_Switch T.me_Switch_find G_Switch_find (hr.mono (by decide)) b_Switch_find .nil pass0 (pa_cons (pv 1) pa_nil))) (pss_cons (ps_if (pt_cmpR op_isN (pv 2) pe_non (nomark _)) (pss_one (ps_ret pe_non)) pss_nil) (pss_one (ps_ret (pe_tup (pa_cons (pe_fld (pv 2) rfl) (pa_cons (pe_fld (pv 2) rfl) (pa_cons (pe_fld (pv 2) rfl) pa_nil)))))))), ?_⟩
  refine ⟨_, rfl, sw, _, _, rfl, N.sw.1, rfl, _, rfl, _, _, rfl, L, sw, ho, B, ac, al, p, rfl, rfl, N, ?_⟩
  cases e : findA ac p with
  | none =>
    refine ⟨_, rfl, rfl, _, rfl, ?_⟩
    refine iteT ?_
    exact k0 e
  | some x =>
    obtain ⟨dc, hc⟩ := N.calls x (findA_mem e)
    refine ⟨_, rfl, rfl, _, rfl, ?_⟩
    refine iteF ?_
    refine ⟨_, rfl, _, _, _, _, _, rfl, hc.1, T.cl_Call, T.na_Call_caller, rfl, _, rfl, _, _, _, _, _, rfl, hc.1, T.cl_Call, T.na_Call_called, rfl, _, rfl, _, _, _, _, _, rfl, hc.1, T.cl_Call, T.na_Call_stage, rfl, by show 3 ≤ sizeLine; decide, fun t ht => ?_⟩
    exact k1 x e _ t (same_new ht) (.tup upd_same (.cons (.int _) (.cons (td_oI _) (.cons (.str _) .nil))))
def spIsLeg (K : PySem.W.Frag) : Sp := sp2 fun a b H Q => ∃ (L : Lb) (sw ho : Addr) (A : PA) (ac : List (Addr × CallR)) (al : List (Addr × LineR)) (p : Int), a = .ref sw ∧ b = .int p ∧ PN K L H sw ho A ac al ∧ Q (.bl (legB (ac.map (·.2)) p)) H
theorem legB_none {ac : List (Addr × CallR)} {p : Int} (e : findA ac p = none) : legB (ac.map (·.2)) p = false := by
  unfold legB
  rw [← findA_snd, e]
  rfl
theorem legB_some {ac : List (Addr × CallR)} {p : Int} {x : Addr × CallR} (e : findA ac p = some x) : legB (ac.map (·.2)) p = (decide (p = x.2.caller) || !decide (x.2.st = .looking)) := by
  unfold legB
  rw [← findA_snd, e]
  show (decide (p = x.2.caller) || decide (x.2.st ≠ .looking)) = _
  rw [decide_not]
theorem decVI (a b : Int) : decide (V.int a = V.int b) = decide (a = b) := by simp
theorem ok_Switch_is_leg (T : Hd K mg) : OkD P w K mg base d_Switch_is_leg 2 P_Switch_is_leg (spIsLeg K) := by
  obtain ⟨fd, F⟩ := T.says.def_ 15 (d := d_Switch_is_leg) rfl
  obtain ⟨_, F_Switch_find, b_Switch_find, G_Switch_find⟩ := ok_Switch_find (P := P) (w := w) (base := base) T
  refine ⟨fd, F, F.bindsN (ps := P_Switch_is_leg) (fun _ _ _ _ _ _ us hl => match us, hl with | [_, _], _ => rfl), F.ok sc_Switch_is_leg (fun vs H Q E h => sp2_len h) (fun cdv A outer s H vs Q E hr h => ?_)⟩
  have hu := hu_of hr
  obtain ⟨a, b, rfl, L, sw, ho, B, ac, al, p, rfl, rfl, N, k⟩ := h
  refine ⟨_, PSs.nox (pss_cons (ps_set (i := 2) sc_Switch_is_leg.nd rfl (Or.inl rfl) (pe_meth (pv 0) T.cl_Switch T.me_Switch_find G_Switch_find (hr.mono (by decide)) b_Switch_find .nil pass0 (pa_cons (pv 1) pa_nil))) (pss_cons (ps_if (pt_cmpR op_isN (pv 2) pe_non (nomark _)) (pss_one (ps_ret pe_bl)) pss_nil) (pss_one (ps_ret (pe_or (pe_cmpR op_eq (pv 1) (pe_fld (pv 2) rfl) (nomark _)) (pe_one (pe_cmpR op_ne (pe_fld (pv 2) rfl) pe_str (nomark _)))))))), ?_⟩
  refine ⟨_, rfl, sw, _, _, rfl, N.sw.1, rfl, _, rfl, _, _, rfl, L, sw, ho, B, ac, al, p, rfl, rfl, N, ?_⟩
  cases e : findA ac p with
  | none =>
    rw [legB_none e] at k
    refine ⟨_, rfl, rfl, _, rfl, ?_⟩
    refine iteT ?_
    exact k
  | some x =>
    obtain ⟨dc, hc⟩ := N.calls x (findA_mem e)
    rw [legB_some e] at k
    refine ⟨_, rfl, rfl, _, rfl, ?_⟩
    refine iteF ?_
    refine ⟨_, rfl, _, rfl, _, _, _, _, _, rfl, hc.1, T.cl_Call, T.na_Call_caller, rfl, rfl, _, rfl, ?_⟩
    rw [decVI]
    cases h1 : decide (p = x.2.caller) with
    | true =>
      rw [h1] at k
      exact iteT k
    | false =>
      rw [h1] at k
      refine iteF ⟨_, rfl, _, _, _, _, _, rfl, hc.1, T.cl_Call, T.na_Call_stage, rfl, rfl, ?_⟩
      show Q (.bl (!decide (V.str x.2.st.s = V.str Stg.looking.s))) H
      rw [eqStg]
      exact k
def spClear (K : PySem.W.Frag) : Sp := sp4 fun a b c d H Q => ∃ (cl dc : Addr) (r : CallR) (q e : Int), b = .ref cl ∧ c = .int q ∧ d = .int e ∧ H cl = some (.ins (cCl K) dc (callFs r)) ∧ ∀ v H', New H H' v (clearD r q e) → Q v H'
theorem eq_oI (p : Int) (o : Option Int) : decide (V.int p = oI o) = decide (some p = o) := by
  cases o with
  | none => simp [oI]
  | some g => simp [oI]
theorem ok_Switch_clear (T : Hd K mg) : OkD P w K mg base d_Switch_clear 2 P_Switch_clear (spClear K) := by
  obtain ⟨fd, F⟩ := T.says.def_ 22 (d := d_Switch_clear) rfl
  obtain ⟨_, F_refuse, b_refuse, G_refuse⟩ := ok_refuse (P := P) (w := w) (base := base) T
  refine ⟨fd, F, F.bindsN (ps := P_Switch_clear) (fun _ _ _ _ _ _ us hl => match us, hl with | [_, _, _, _], _ => rfl), F.ok sc_Switch_clear (fun vs H Q E h => sp4_len h) (fun cdv A outer s H vs Q E hr h => ?_)⟩
  have hu := hu_of hr
  obtain ⟨a, b, c, d, rfl, cl, dc, r, q, e, rfl, rfl, rfl, hc, k⟩ := h
  refine ⟨_, PSs.nox (pss_cons (ps_if ((pw_and (pt_cmpR op_eq (pv 2) (pe_fld (pv 1) rfl) (nomark _)) (pw_and1 (pt_cmpR op_eq (pe_fld (pv 1) rfl) pe_str (nomark _))))).pt (pss_one (ps_ret (pe_lst (pa_cons (pe_tup (pa_cons pe_str (pa_cons (pv 2) pa_nil))) pa_nil)))) pss_nil) (pss_one (ps_ret (pe_call G_refuse (hr.mono (by decide)) (by rfl) T.gl_refuse F_refuse.kp b_refuse .nil pass0 (pa_cons (pv 2) (pa_cons (pv 3) pa_nil)))))), ?_⟩
  refine ⟨_, rfl, _, rfl, _, _, _, _, _, rfl, hc, T.cl_Call, T.na_Call_called, rfl, scal_oI _ _, _, rfl, ?_⟩
  rw [eq_oI]
  cases h1 : decide (some q = r.called) with
  | false =>
    have e1 : clearD r q e = refuseD q e := by
      unfold clearD
      rw [if_neg (fun z => of_decide_eq_false h1 z.1)]
    rw [e1] at k
    refine iteF (iteF ?_)
    exact ⟨_, rfl, _, rfl, _, _, rfl, q, e, rfl, rfl, k⟩
  | true =>
    refine iteT ⟨_, rfl, _, _, _, _, _, rfl, hc, T.cl_Call, T.na_Call_stage, rfl, rfl, _, rfl, ?_⟩
    show (if decide (V.str r.st.s = V.str Stg.looking.s) = true then _ else _)
    rw [eqStg]
    cases h2 : decide (r.st = .looking) with
    | false =>
      have e1 : clearD r q e = refuseD q e := by
        unfold clearD
        rw [if_neg (fun z => of_decide_eq_false h2 z.2)]
      rw [e1] at k
      refine iteF ?_
      exact ⟨_, rfl, _, rfl, _, _, rfl, q, e, rfl, rfl, k⟩
    | true =>
      have e1 : clearD r q e = [unpageD q] := by
        unfold clearD
        rw [if_pos ⟨of_decide_eq_true h1, of_decide_eq_true h2⟩]
      rw [e1] at k
      refine iteT ?_
      refine ⟨_, rfl, by show 2 ≤ sizeLine; decide, fun t ht => ⟨by show 1 ≤ sizeLine; decide, fun l hl => ?_⟩⟩
      exact k _ _ ⟨(same_new ht).trans (same_new hl), l, _, rfl, upd_free hl, upd_same, .cons (.tup (upd_old upd_same hl) (.cons (.str _) (.cons (.int _) .nil))) .nil⟩
end
end Mob

set_option Elab.async false
set_option linter.all false
set_option maxRecDepth 100000
set_option maxHeartbeats 4000000
namespace Mob
open PySem PySem.Spec PyProof.Rows L2
/-! ### the home register -/
structure PRec where
  a : Addr
  dp : Addr
  d : Addr
  dg : Str
  num : Str
  ar : V
  kvs : List (Key × V)
structure HA where
  dh : Addr
  hl : Addr
def hoFs (hl : Addr) : List (Str × V) := [("rows", .ref hl)]
def peFs (dg num : Str) (ar : V) (d : Addr) : List (Str × V) := [("digits", .str dg), ("number", .str num), ("area", ar), ("numbers", .ref d)]
def PRec.fs (x : PRec) : List (Str × V) := peFs x.dg x.num x.ar x.d
structure HM (K : PySem.W.Frag) (L : Lb) (H : Hp) (ho : Addr) (A : HA) (ps : List PRec) : Prop where
  ho : At L H 1 ho (.ins (cHo K) A.dh (hoFs A.hl))
  hl : At L H 2 A.hl (.lst (ps.map fun x => V.ref x.a))
  per : ∀ x ∈ ps, At L H 3 x.a (.ins (cPe K) x.dp x.fs)
  dic : ∀ x ∈ ps, At L H 4 x.d (.dK x.kvs)
  nda : (ps.map (·.a)).Nodup
  ndd : (ps.map (·.d)).Nodup
section
variable {K : PySem.W.Frag} {S : Nat → Prop} {L L' : Lb} {H H' : Hp} {ho : Addr} {A : HA} {ps : List PRec}
theorem HM.keep (N : HM K L H ho A ps) (s : Step S L H L' H') (n : ∀ k, 1 ≤ k → k ≤ 4 → ¬ S k) : HM K L' H' ho A ps where
  ho := N.ho.keep s (n 1 (by decide) (by decide))
  hl := N.hl.keep s (n 2 (by decide) (by decide))
  per := fun x hx => (N.per x hx).keep s (n 3 (by decide) (by decide))
  dic := fun x hx => (N.dic x hx).keep s (n 4 (by decide) (by decide))
  nda := N.nda
  ndd := N.ndd
theorem HM.same (N : HM K L H ho A ps) (s : Same H H') : HM K L H' ho A ps := N.keep (S := fun _ => False) (Step.same s) fun _ _ _ h => h
theorem nd_at {α β : Type} {f : α → β} {l : List α} (h : (l.map f).Nodup) {i j : Nat} {x y : α} (hx : l[i]? = some x) (hy : l[j]? = some y) (e : f x = f y) : i = j :=
  nd_ix h (by rw [List.getElem?_map, hx]; rfl) (by rw [List.getElem?_map, hy, e]; rfl)
theorem map_set {α β : Type} {f : α → β} {l : List α} {i : Nat} {x y : α} (hx : l[i]? = some x) (e : f y = f x) : (l.set i y).map f = l.map f := by
  rw [List.map_set, e]
  refine List.ext_getElem? fun j => ?_
  rw [List.getElem?_set]
  split
  · rename_i q
    subst q
    split
    · rw [List.getElem?_map, hx]; rfl
    · rename_i h
      rw [List.length_map] at h
      exact absurd (List.getElem?_eq_some_iff.mp hx).1 h
  · rfl
theorem mem_set_at {α : Type} {l : List α} {i : Nat} {x y z : α} (hx : l[i]? = some x) (h : z ∈ l.set i y) : z = y ∨ ∃ j, j ≠ i ∧ l[j]? = some z := by
  obtain ⟨j, hj⟩ := List.mem_iff_getElem?.mp h
  rw [List.getElem?_set] at hj
  split at hj
  · split at hj
    · exact .inl (Option.some.inj hj).symm
    · cases hj
  · rename_i q
    exact .inr ⟨j, fun z => q z.symm, hj⟩
/-- a person's attributes are stored -/
theorem HM.setPer (N : HM K L H ho A ps) {i : Nat} {x y : PRec} (hx : ps[i]? = some x) (e1 : y.a = x.a) (e2 : y.d = x.d) (e3 : y.kvs = x.kvs) (dp : y.dp = x.dp) : HM K L (upd H x.a (.ins (cPe K) x.dp y.fs)) ho A (ps.set i y) := by
  have hm := List.mem_of_getElem? hx
  have hc := N.per x hm
  refine ⟨N.ho.off hc.2 (by decide), ?_, fun z hz => ?_, fun z hz => ?_, ?_, ?_⟩
  · rw [map_set (f := fun x : PRec => V.ref x.a) hx (by rw [e1])]
    exact N.hl.off hc.2 (by decide)
  · rcases mem_set_at hx hz with rfl | ⟨j, hj, hz⟩
    · rw [e1, dp]
      exact At.at hc.2
    · exact (N.per z (List.mem_of_getElem? hz)).offA fun q => hj (nd_at (f := fun x : PRec => x.a) N.nda hz hx q)
  · rcases mem_set_at hx hz with rfl | ⟨j, hj, hz⟩
    · rw [e2, e3]
      exact (N.dic x hm).off hc.2 (by decide)
    · exact (N.dic z (List.mem_of_getElem? hz)).off hc.2 (by decide)
  · rw [map_set (f := fun x : PRec => x.a) hx e1]; exact N.nda
  · rw [map_set (f := fun x : PRec => x.d) hx e2]; exact N.ndd
/-- a person's dict is stored -/
theorem HM.setDic (N : HM K L H ho A ps) {i : Nat} {x : PRec} (hx : ps[i]? = some x) (kv : List (Key × V)) : HM K L (upd H x.d (.dK kv)) ho A (ps.set i { x with kvs := kv }) := by
  have hm := List.mem_of_getElem? hx
  have hc := N.dic x hm
  refine ⟨N.ho.off hc.2 (by decide), ?_, fun z hz => ?_, fun z hz => ?_, ?_, ?_⟩
  · rw [map_set (f := fun x : PRec => V.ref x.a) (y := { x with kvs := kv }) hx rfl]
    exact N.hl.off hc.2 (by decide)
  · rcases mem_set_at hx hz with rfl | ⟨j, hj, hz⟩
    · exact (N.per x hm).off hc.2 (by decide)
    · exact (N.per z (List.mem_of_getElem? hz)).off hc.2 (by decide)
  · rcases mem_set_at hx hz with rfl | ⟨j, hj, hz⟩
    · exact At.at hc.2
    · exact (N.dic z (List.mem_of_getElem? hz)).offA fun q => hj (nd_at (f := fun x : PRec => x.d) N.ndd hz hx q)
  · rw [map_set (f := fun x : PRec => x.a) (y := { x with kvs := kv }) hx rfl]; exact N.nda
  · rw [map_set (f := fun x : PRec => x.d) (y := { x with kvs := kv }) hx rfl]; exact N.ndd
end
def S14 (n : Nat) : Prop := 1 ≤ n ∧ n ≤ 4
def natO : Option Nat → V
  | none => .non
  | some i => .int (i : Int)
end Mob

set_option Elab.async false
set_option linter.all false
set_option maxRecDepth 100000
set_option maxHeartbeats 4000000
namespace Mob
open PySem PySem.Spec PyProof.Rows L2
section
variable {P : Program} {w : World} {K : PySem.W.Frag} {mg : Str → Option Value} {base : Heap}
/-! ### the home register's defs -/
def spPeInit (K : PySem.W.Frag) : Sp := sp3 fun a b c H Q => ∃ (p dx : Addr) (dg num : Str), a = .ref p ∧ b = .str dg ∧ c = .str num ∧ H p = some (.ins (cPe K) dx []) ∧
  ∀ (H' : Hp) (d : Addr), H d = none → H' p = some (.ins (cPe K) dx (peFs dg num .non d)) → H' d = some (.dK []) → (∀ b o, H b = some o → b ≠ p → H' b = some o) → Q .non H'
theorem ok_Person_init (T : Hd K mg) : OkD P w K mg base d_Person_init 1 P_Person_init (spPeInit K) := by
  obtain ⟨fd, F⟩ := T.says.def_ 30 (d := d_Person_init) rfl
  refine ⟨fd, F, F.bindsN (ps := P_Person_init) (fun _ _ _ _ _ _ us hl => match us, hl with | [_, _, _], _ => rfl), F.ok sc_Person_init (fun vs H Q E h => sp3_len h) (fun cdv A outer s H vs Q E hr h => ?_)⟩
  have hu := hu_of hr
  obtain ⟨a, b, c, rfl, p, dx, dg, num, rfl, rfl, rfl, hp, k⟩ := h
  refine ⟨_, PSs.nox (pss_cons (ps_fld (pv 0) (pv 1) rfl) (pss_cons (ps_fld (pv 0) (pv 2) rfl) (pss_cons (ps_fld (pv 0) pe_non rfl) (pss_one (ps_fld (pv 0) pe_dnewK rfl))))), ?_⟩
  refine ⟨_, rfl, _, rfl, p, cPe K, dx, [], rfl, hp, T.cl_Person, T.na_Person_digits, (by show 0 < 1000; decide), ?_⟩
  refine ⟨_, rfl, _, rfl, p, cPe K, dx, _, rfl, upd_same, T.cl_Person, T.na_Person_number, (by show 1 < 1000; decide), ?_⟩
  refine ⟨_, rfl, p, cPe K, dx, _, rfl, upd_same, T.cl_Person, T.na_Person_area, (by show 2 < 1000; decide), ?_⟩
  intro d hd
  have hpd : p ≠ d := fun z => by rw [← z, upd_same] at hd; cases hd
  have hd0 : H d = none := by
    rw [upd_ne hpd.symm, upd_ne hpd.symm, upd_ne hpd.symm] at hd
    exact hd
  refine ⟨_, rfl, p, cPe K, dx, _, rfl, upd_old upd_same hd, T.cl_Person, T.na_Person_numbers, (by show 3 < 1000; decide), ?_⟩
  exact k _ d hd0 upd_same (by rw [upd_ne hpd.symm, upd_same]) fun b o e nb => by rw [upd_ne nb]; exact upd_old (by rw [upd_ne nb, upd_ne nb, upd_ne nb]; exact e) hd
def spHoInit (K : PySem.W.Frag) : Sp := sp1 fun a H Q => ∃ (p dx : Addr), a = .ref p ∧ H p = some (.ins (cHo K) dx []) ∧
  ∀ (H' : Hp) (l : Addr), H l = none → H' p = some (.ins (cHo K) dx (hoFs l)) → H' l = some (.lst []) → (∀ b o, H b = some o → b ≠ p → H' b = some o) → Q .non H'
theorem ok_Home_init (T : Hd K mg) : OkD P w K mg base d_Home_init 1 P_Home_init (spHoInit K) := by
  obtain ⟨fd, F⟩ := T.says.def_ 31 (d := d_Home_init) rfl
  refine ⟨fd, F, F.bindsN (ps := P_Home_init) (fun _ _ _ _ _ _ us hl => match us, hl with | [_], _ => rfl), F.ok sc_Home_init (fun vs H Q E h => sp1_len h) (fun cdv A outer s H vs Q E hr h => ?_)⟩
  have hu := hu_of hr
  obtain ⟨a, rfl, p, dx, rfl, hp, k⟩ := h
  refine ⟨_, PSs.nox (pss_one (ps_fld (pv 0) (pe_lst pa_nil) rfl)), ?_⟩
  refine ⟨Nat.zero_le _, fun l hl => ?_⟩
  have npl : p ≠ l := ne_of_none hp hl
  refine ⟨_, rfl, p, cHo K, dx, [], rfl, upd_old hp hl, T.cl_Home, T.na_Home_rows, (by show 0 < 1000; decide), ?_⟩
  exact k _ l hl upd_same (by rw [upd_ne npl.symm, upd_same]) fun b o e nb => by rw [upd_ne nb]; exact upd_old e hl
def spHoFind (K : PySem.W.Frag) : Sp := sp2 fun a b H Q => ∃ (L : Lb) (ho : Addr) (A : HA) (ps : List PRec) (i : Nat) (x : PRec), a = .ref ho ∧ b = .int (i : Int) ∧ HM K L H ho A ps ∧ ps[i]? = some x ∧ Q (.ref x.a) H
theorem ok_Home_find (T : Hd K mg) : OkD P w K mg base d_Home_find 1 P_Home_find (spHoFind K) := by
  obtain ⟨fd, F⟩ := T.says.def_ 33 (d := d_Home_find) rfl
  refine ⟨fd, F, F.bindsN (ps := P_Home_find) (fun _ _ _ _ _ _ us hl => match us, hl with | [_, _], _ => rfl), F.ok sc_Home_find (fun vs H Q E h => sp2_len h) (fun cdv A outer s H vs Q E hr h => ?_)⟩
  have hu := hu_of hr
  obtain ⟨a, b, rfl, L, ho, B, ps, i, x, rfl, rfl, N, hx, k⟩ := h
  have hi := (List.getElem?_eq_some_iff.mp hx).1
  refine ⟨_, PSs.nox (pss_cons (ps_if ((pw_or (pt_cmpR op_lt (pv 1) pe_int (nomark _)) (pw_or1 (pt_cmpR op_ge (pv 1) (pe_callB call_len_seq (by rfl) T.fr_len PySem.boot_len (pa_cons (pe_fld (pv 0) rfl) pa_nil)) (nomark _))))).pt (pss_one ps_never) pss_nil) (pss_one (ps_ret (pe_ix ix_list (pe_fld (pv 0) rfl) (pv 1) (fun _ _ => rfl))))), ?_⟩
  refine ⟨_, rfl, _, _, rfl, rfl, _, rfl, ?_⟩
  show (if decide ((i : Int) < 0) = true then _ else _)
  rw [decide_eq_false (by omega)]
  refine iteF ⟨_, rfl, _, rfl, _, _, _, _, _, rfl, N.ho.1, T.cl_Home, T.na_Home_rows, rfl, _, _, rfl, .inl (SqL.of N.hl.1), _, _, rfl, rfl, _, rfl, ?_⟩
  show (if decide ((((ps.map fun x => V.ref x.a).length : Nat) : Int) ≤ (i : Int)) = true then _ else _)
  rw [decide_eq_false (by rw [List.length_map]; omega)]
  refine iteF ⟨_, rfl, _, _, _, _, _, rfl, N.ho.1, T.cl_Home, T.na_Home_rows, rfl, _, rfl, _, _, _, _, rfl, rfl, SqL.of N.hl.1, atI_nat (by rw [List.getElem?_map, hx]; rfl), k⟩
def spHoNumber (K : PySem.W.Frag) : Sp := sp2 fun a b H Q => ∃ (L : Lb) (ho : Addr) (A : HA) (ps : List PRec) (i : Nat) (x : PRec), a = .ref ho ∧ b = .int (i : Int) ∧ HM K L H ho A ps ∧ ps[i]? = some x ∧ Q (.str x.num) H
theorem ok_Home_number (T : Hd K mg) : OkD P w K mg base d_Home_number 2 P_Home_number (spHoNumber K) := by
  obtain ⟨fd, F⟩ := T.says.def_ 36 (d := d_Home_number) rfl
  obtain ⟨_, F_Home_find, b_Home_find, G_Home_find⟩ := ok_Home_find (P := P) (w := w) (base := base) T
  refine ⟨fd, F, F.bindsN (ps := P_Home_number) (fun _ _ _ _ _ _ us hl => match us, hl with | [_, _], _ => rfl), F.ok sc_Home_number (fun vs H Q E h => sp2_len h) (fun cdv A outer s H vs Q E hr h => ?_)⟩
  have hu := hu_of hr
  obtain ⟨a, b, rfl, L, ho, B, ps, i, x, rfl, rfl, N, hx, k⟩ := h
  refine ⟨_, PSs.nox (pss_one (ps_ret (pe_fld (pe_meth (pv 0) T.cl_Home T.me_Home_find G_Home_find (hr.mono (by decide)) b_Home_find .nil pass0 (pa_cons (pv 1) pa_nil)) rfl))), ?_⟩
  refine ⟨_, rfl, ho, _, _, rfl, N.ho.1, rfl, _, rfl, _, _, rfl, L, ho, B, ps, i, x, rfl, rfl, N, hx, ?_⟩
  exact ⟨_, _, _, _, _, rfl, (N.per x (List.mem_of_getElem? hx)).1, T.cl_Person, T.na_Person_number, rfl, k⟩
def spHoArea (K : PySem.W.Frag) : Sp := sp2 fun a b H Q => ∃ (L : Lb) (ho : Addr) (A : HA) (ps : List PRec) (i : Nat) (x : PRec), a = .ref ho ∧ b = .int (i : Int) ∧ HM K L H ho A ps ∧ ps[i]? = some x ∧ Q x.ar H
theorem ok_Home_area (T : Hd K mg) : OkD P w K mg base d_Home_area 2 P_Home_area (spHoArea K) := by
  obtain ⟨fd, F⟩ := T.says.def_ 37 (d := d_Home_area) rfl
  obtain ⟨_, F_Home_find, b_Home_find, G_Home_find⟩ := ok_Home_find (P := P) (w := w) (base := base) T
  refine ⟨fd, F, F.bindsN (ps := P_Home_area) (fun _ _ _ _ _ _ us hl => match us, hl with | [_, _], _ => rfl), F.ok sc_Home_area (fun vs H Q E h => sp2_len h) (fun cdv A outer s H vs Q E hr h => ?_)⟩
  have hu := hu_of hr
  obtain ⟨a, b, rfl, L, ho, B, ps, i, x, rfl, rfl, N, hx, k⟩ := h
  refine ⟨_, PSs.nox (pss_one (ps_ret (pe_fld (pe_meth (pv 0) T.cl_Home T.me_Home_find G_Home_find (hr.mono (by decide)) b_Home_find .nil pass0 (pa_cons (pv 1) pa_nil)) rfl))), ?_⟩
  refine ⟨_, rfl, ho, _, _, rfl, N.ho.1, rfl, _, rfl, _, _, rfl, L, ho, B, ps, i, x, rfl, rfl, N, hx, ?_⟩
  exact ⟨_, _, _, _, _, rfl, (N.per x (List.mem_of_getElem? hx)).1, T.cl_Person, T.na_Person_area, rfl, k⟩
def spHoForward (K : PySem.W.Frag) : Sp := sp3 fun a b c H Q => ∃ (L : Lb) (ho : Addr) (A : HA) (ps : List PRec) (i : Nat) (x : PRec) (z : Str), a = .ref ho ∧ b = .int (i : Int) ∧ c = .str z ∧ HM K L H ho A ps ∧ ps[i]? = some x ∧ Q ((valV x.kvs (Sum.inr z)).getD .non) H
theorem ok_Home_forward (T : Hd K mg) : OkD P w K mg base d_Home_forward 2 P_Home_forward (spHoForward K) := by
  obtain ⟨fd, F⟩ := T.says.def_ 39 (d := d_Home_forward) rfl
  obtain ⟨_, F_Home_find, b_Home_find, G_Home_find⟩ := ok_Home_find (P := P) (w := w) (base := base) T
  refine ⟨fd, F, F.bindsN (ps := P_Home_forward) (fun _ _ _ _ _ _ us hl => match us, hl with | [_, _, _], _ => rfl), F.ok sc_Home_forward (fun vs H Q E h => sp3_len h) (fun cdv A outer s H vs Q E hr h => ?_)⟩
  have hu := hu_of hr
  obtain ⟨a, b, c, rfl, L, ho, B, ps, i, x, z, rfl, rfl, rfl, N, hx, k⟩ := h
  refine ⟨_, PSs.nox (pss_one (ps_ret (pe_dget1 hu (pe_fld (pe_meth (pv 0) T.cl_Home T.me_Home_find G_Home_find (hr.mono (by decide)) b_Home_find .nil pass0 (pa_cons (pv 1) pa_nil)) rfl) (pv 2) (by first | exact ⟨rfl, rfl, rfl⟩ | constructor <;> rfl)))), ?_⟩
  refine ⟨_, rfl, ho, _, _, rfl, N.ho.1, rfl, _, rfl, _, _, rfl, L, ho, B, ps, i, x, rfl, rfl, N, hx, ?_⟩
  have hd := (N.dic x (List.mem_of_getElem? hx)).1
  exact ⟨_, _, _, _, _, rfl, (N.per x (List.mem_of_getElem? hx)).1, T.cl_Person, T.na_Person_numbers, rfl, _, rfl, .inl ⟨_, .inl hd⟩, _, rfl, _, DGet.k (k := Sum.inr z) hd, k⟩
def spHoSetArea (K : PySem.W.Frag) : Sp := sp3 fun a b c H Q => ∃ (L : Lb) (ho : Addr) (A : HA) (ps : List PRec) (i : Nat) (x : PRec), a = .ref ho ∧ b = .int (i : Int) ∧ HM K L H ho A ps ∧ ps[i]? = some x ∧
  ∀ H', Step S14 L H L H' → HM K L H' ho A (ps.set i { x with ar := c }) → Q .non H'
theorem ok_Home_set_area (T : Hd K mg) : OkD P w K mg base d_Home_set_area 2 P_Home_set_area (spHoSetArea K) := by
  obtain ⟨fd, F⟩ := T.says.def_ 38 (d := d_Home_set_area) rfl
  obtain ⟨_, F_Home_find, b_Home_find, G_Home_find⟩ := ok_Home_find (P := P) (w := w) (base := base) T
  refine ⟨fd, F, F.bindsN (ps := P_Home_set_area) (fun _ _ _ _ _ _ us hl => match us, hl with | [_, _, _], _ => rfl), F.ok sc_Home_set_area (fun vs H Q E h => sp3_len h) (fun cdv A outer s H vs Q E hr h => ?_)⟩
  have hu := hu_of hr
  obtain ⟨a, b, c, rfl, L, ho, B, ps, i, x, rfl, rfl, N, hx, k⟩ := h
  refine ⟨_, PSs.nox (pss_cons (ps_set (i := 3) sc_Home_set_area.nd rfl (Or.inl rfl) (pe_meth (pv 0) T.cl_Home T.me_Home_find G_Home_find (hr.mono (by decide)) b_Home_find .nil pass0 (pa_cons (pv 1) pa_nil))) (pss_one (ps_fld (pv 3) (pv 2) rfl))), ?_⟩
  refine ⟨_, rfl, ho, _, _, rfl, N.ho.1, rfl, _, rfl, _, _, rfl, L, ho, B, ps, i, x, rfl, rfl, N, hx, ?_⟩
  have hp := N.per x (List.mem_of_getElem? hx)
  refine ⟨_, rfl, _, rfl, _, _, _, _, rfl, hp.1, T.cl_Person, T.na_Person_area, (by show 4 < 1000; decide), ?_⟩
  exact k _ (Step.write hp.1 (by intro _ z; cases z) (by rw [hp.2]; exact ⟨by decide, by decide⟩)) (N.setPer (y := { x with ar := c }) hx rfl rfl rfl rfl)
def spHoSetForward (K : PySem.W.Frag) : Sp := sp4 fun a b c d H Q => ∃ (L : Lb) (ho : Addr) (A : HA) (ps : List PRec) (i : Nat) (x : PRec) (z : Str), a = .ref ho ∧ b = .int (i : Int) ∧ c = .str z ∧ HM K L H ho A ps ∧ ps[i]? = some x ∧ x.kvs.length ≤ 1000 ∧
  ∀ v H', Step S14 L H L H' → HM K L H' ho A (ps.set i { x with kvs := putK x.kvs (Sum.inr z) d }) → Q v H'
theorem ok_Home_set_forward (T : Hd K mg) : OkD P w K mg base d_Home_set_forward 2 P_Home_set_forward (spHoSetForward K) := by
  obtain ⟨fd, F⟩ := T.says.def_ 40 (d := d_Home_set_forward) rfl
  obtain ⟨_, F_Home_find, b_Home_find, G_Home_find⟩ := ok_Home_find (P := P) (w := w) (base := base) T
  refine ⟨fd, F, F.bindsN (ps := P_Home_set_forward) (fun _ _ _ _ _ _ us hl => match us, hl with | [_, _, _, _], _ => rfl), F.ok sc_Home_set_forward (fun vs H Q E h => sp4_len h) (fun cdv A outer s H vs Q E hr h => ?_)⟩
  have hu := hu_of hr
  obtain ⟨a, b, c, d, rfl, L, ho, B, ps, i, x, z, rfl, rfl, rfl, N, hx, hl, k⟩ := h
  refine ⟨_, PSs.nox (pss_cons (ps_set (i := 4) sc_Home_set_forward.nd rfl (Or.inl rfl) (pe_meth (pv 0) T.cl_Home T.me_Home_find G_Home_find (hr.mono (by decide)) b_Home_find .nil pass0 (pa_cons (pv 1) pa_nil))) (pss_cons (ps_set (i := 5) sc_Home_set_forward.nd rfl (Or.inl rfl) (pe_dget1 hu (pe_fld (pv 4) rfl) (pv 2) (by first | exact ⟨rfl, rfl, rfl⟩ | constructor <;> rfl))) (pss_cons (ps_dput hu (pe_fld (pv 4) rfl) (pv 2) (pv 3) rfl) (pss_one (ps_ret (pv 5)))))), ?_⟩
  refine ⟨_, rfl, ho, _, _, rfl, N.ho.1, rfl, _, rfl, _, _, rfl, L, ho, B, ps, i, x, rfl, rfl, N, hx, ?_⟩
  have hp := (N.per x (List.mem_of_getElem? hx)).1
  have hd := N.dic x (List.mem_of_getElem? hx)
  refine ⟨_, rfl, _, _, _, _, _, rfl, hp, T.cl_Person, T.na_Person_numbers, rfl, _, rfl, .inl ⟨_, .inl hd.1⟩, _, rfl, _, DGet.k (k := Sum.inr z) hd.1, ?_⟩
  refine ⟨_, rfl, _, rfl, _, _, _, _, _, rfl, hp, T.cl_Person, T.na_Person_numbers, rfl, _, rfl, _, _, rfl, DPut.k (k := Sum.inr z) hd.1 (small1000 hl), ?_⟩
  refine ⟨_, rfl, ?_⟩
  exact k _ _ (Step.write hd.1 (by intro _ z; cases z) (by rw [hd.2]; exact ⟨by decide, by decide⟩)) (N.setDic hx _)
end
end Mob

set_option Elab.async false
set_option linter.all false
set_option maxRecDepth 100000
set_option maxHeartbeats 4000000
namespace Mob
open PySem PySem.Spec PyProof.Rows L2
section
variable {P : Program} {w : World} {K : PySem.W.Frag} {mg : Str → Option Value} {base : Heap}
theorem ix_hit {α : Type} {f : α → Bool} {l : List α} {i : Nat} {x : α} (h : l[i]? = some x) (hn : ∀ y ∈ l.take i, f y = false) (hf : f x = true) : l.findIdx? f = some i := by
  obtain ⟨hi, e⟩ := List.getElem?_eq_some_iff.mp h
  refine List.findIdx?_eq_some_iff_getElem.mpr ⟨hi, by rw [e]; exact hf, fun j hj => ?_⟩
  have hj' : j < l.length := by omega
  rw [hn l[j] (List.mem_take_iff_getElem.mpr ⟨j, by omega, rfl⟩)]
  exact Bool.false_ne_true
theorem ix_out {α : Type} {f : α → Bool} {l : List α} (hn : ∀ y ∈ l.take l.length, f y = false) : l.findIdx? f = none :=
  List.findIdx?_eq_none_iff.mpr fun y hy => hn y (by rw [List.take_length]; exact hy)
def spWithN (K : PySem.W.Frag) (f : PRec → Str) : Sp := sp2 fun a b H Q => ∃ (L : Lb) (ho : Addr) (A : HA) (ps : List PRec) (z : Str), a = .ref ho ∧ b = .str z ∧ HM K L H ho A ps ∧
  ∀ H', Same H H' → Q (natO (ixOf (ps.map f) z)) H'
theorem ixOf_map {f : PRec → Str} {ps : List PRec} {z : Str} : ixOf (ps.map f) z = ps.findIdx? fun x => decide (f x = z) := by
  unfold ixOf
  rw [List.findIdx?_map]
  rfl
theorem strEq (a b : Str) : decide (V.str a = V.str b) = decide (a = b) := by simp
theorem ok_Home_with_digits (T : Hd K mg) : OkD P w K mg base d_Home_with_digits 1 P_Home_with_digits (spWithN K PRec.dg) := by
  obtain ⟨fd, F⟩ := T.says.def_ 34 (d := d_Home_with_digits) rfl
  refine ⟨fd, F, F.bindsN (ps := P_Home_with_digits) (fun _ _ _ _ _ _ us hl => match us, hl with | [_, _], _ => rfl), F.ok sc_Home_with_digits (fun vs H Q E h => sp2_len h) (fun cdv A outer s H vs Q E hr h => ?_)⟩
  have hu := hu_of hr
  obtain ⟨a, b, rfl, L, ho, B, ps, z, rfl, rfl, N, k⟩ := h
  rw [ixOf_map] at k
  refine ⟨_, PSs.nox (pss_cons (ps_for PassesOwn.never rfl (pi_enum rfl T.fr_enumerate (pa_cons (pe_fld (pv 0) rfl) pa_nil)) (pg_tup rfl (pgs_cons (pg_name (i := 2) sc_Home_with_digits.nd rfl (Or.inl rfl)) (pgs_cons (pg_name (i := 3) sc_Home_with_digits.nd rfl (Or.inl rfl)) pgs_nil))) (pss_one (ps_if (pt_cmpR op_eq (pe_fld (pv 3) rfl) (pv 1) (nomark _)) (pss_one (ps_ret (pv 2))) pss_nil))) (pss_one (ps_ret pe_non))), ?_⟩
  refine ⟨_, rfl, _, cHo K, _, _, _, rfl, N.ho.1, T.cl_Home, T.na_Home_rows, rfl, _, _, rfl, SqL.of N.hl.1, for_it (walk_enum (K := K) (a := B.hl) (xs := ps.map fun x => V.ref x.a))
    (fun i σ H2 => Same H H2 ∧ (∀ y ∈ ps.take i, decide (y.dg = z) = false) ∧ ∃ u v, σ = [some (.ref ho), some (.str z), u, v]) ⟨Same.refl H, by simp, none, none, rfl⟩ (fun i σ H2 _ h => SqL.of (h.1 _ _ N.hl.1)) ?_ ?_⟩
  · rintro i x σ H2 H3 hi ⟨s2, hn, u, v, rfl⟩ ⟨t, p, q, rfl, ht, rfl, e1, e2⟩
    cases e1
    obtain ⟨y, hy, rfl⟩ := map_at e2
    have hp := s2 _ _ (N.per y (List.mem_of_getElem? hy)).1
    refine ⟨t, _, rfl, SqT.of upd_same, rfl, _, _, rfl, _, _, rfl, rfl, ?_⟩
    refine ⟨_, rfl, _, _, _, _, _, rfl, upd_old hp ht, T.cl_Person, T.na_Person_digits, rfl, _, rfl, rfl, _, rfl, ?_⟩
    rw [strEq]
    cases e : decide (y.dg = z) with
    | true =>
      rw [ix_hit (f := fun x : PRec => decide (x.dg = z)) hy hn e] at k
      exact ⟨_, rfl, k _ (s2.trans (same_new ht))⟩
    | false => exact ⟨s2.trans (same_new ht), find_step (f := fun x : PRec => decide (x.dg = z)) hy hn e, _, _, rfl⟩
  · rintro σ H2 ⟨s2, hn, u, v, rfl⟩
    rw [ix_out (f := fun x : PRec => decide (x.dg = z)) (by simpa using hn)] at k
    exact k _ s2
theorem ok_Home_with_number (T : Hd K mg) : OkD P w K mg base d_Home_with_number 1 P_Home_with_number (spWithN K PRec.num) := by
  obtain ⟨fd, F⟩ := T.says.def_ 35 (d := d_Home_with_number) rfl
  refine ⟨fd, F, F.bindsN (ps := P_Home_with_number) (fun _ _ _ _ _ _ us hl => match us, hl with | [_, _], _ => rfl), F.ok sc_Home_with_number (fun vs H Q E h => sp2_len h) (fun cdv A outer s H vs Q E hr h => ?_)⟩
  have hu := hu_of hr
  obtain ⟨a, b, rfl, L, ho, B, ps, z, rfl, rfl, N, k⟩ := h
  rw [ixOf_map] at k
  refine ⟨_, PSs.nox (pss_cons (ps_for PassesOwn.never rfl (pi_enum rfl T.fr_enumerate (pa_cons (pe_fld (pv 0) rfl) pa_nil)) (pg_tup rfl (pgs_cons (pg_name (i := 2) sc_Home_with_number.nd rfl (Or.inl rfl)) (pgs_cons (pg_name (i := 3) sc_Home_with_number.nd rfl (Or.inl rfl)) pgs_nil))) (pss_one (ps_if (pt_cmpR op_eq (pe_fld (pv 3) rfl) (pv 1) (nomark _)) (pss_one (ps_ret (pv 2))) pss_nil))) (pss_one (ps_ret pe_non))), ?_⟩
  refine ⟨_, rfl, _, cHo K, _, _, _, rfl, N.ho.1, T.cl_Home, T.na_Home_rows, rfl, _, _, rfl, SqL.of N.hl.1, for_it (walk_enum (K := K) (a := B.hl) (xs := ps.map fun x => V.ref x.a))
    (fun i σ H2 => Same H H2 ∧ (∀ y ∈ ps.take i, decide (y.num = z) = false) ∧ ∃ u v, σ = [some (.ref ho), some (.str z), u, v]) ⟨Same.refl H, by simp, none, none, rfl⟩ (fun i σ H2 _ h => SqL.of (h.1 _ _ N.hl.1)) ?_ ?_⟩
  · rintro i x σ H2 H3 hi ⟨s2, hn, u, v, rfl⟩ ⟨t, p, q, rfl, ht, rfl, e1, e2⟩
    cases e1
    obtain ⟨y, hy, rfl⟩ := map_at e2
    have hp := s2 _ _ (N.per y (List.mem_of_getElem? hy)).1
    refine ⟨t, _, rfl, SqT.of upd_same, rfl, _, _, rfl, _, _, rfl, rfl, ?_⟩
    refine ⟨_, rfl, _, _, _, _, _, rfl, upd_old hp ht, T.cl_Person, T.na_Person_number, rfl, _, rfl, rfl, _, rfl, ?_⟩
    rw [strEq]
    cases e : decide (y.num = z) with
    | true =>
      rw [ix_hit (f := fun x : PRec => decide (x.num = z)) hy hn e] at k
      exact ⟨_, rfl, k _ (s2.trans (same_new ht))⟩
    | false => exact ⟨s2.trans (same_new ht), find_step (f := fun x : PRec => decide (x.num = z)) hy hn e, _, _, rfl⟩
  · rintro σ H2 ⟨s2, hn, u, v, rfl⟩
    rw [ix_out (f := fun x : PRec => decide (x.num = z)) (by simpa using hn)] at k
    exact k _ s2
theorem HM.add {L : Lb} {H H' : Hp} {ho : Addr} {A : HA} {ps : List PRec} (N : HM K L H ho A ps) (s : Same H H') {x : PRec} (hx : H x.a = none) (hd : H x.d = none) (hx' : H' x.a = some (.ins (cPe K) x.dp x.fs)) (hd' : H' x.d = some (.dK x.kvs)) :
    HM K (setL (setL L x.a 3) x.d 4) (upd H' A.hl (.lst ((ps.map fun x => V.ref x.a) ++ [.ref x.a]))) ho A (ps ++ [x]) := by
  have nxd : x.a ≠ x.d := ne_of hx' hd' (by intro z; cases z)
  have lab : ∀ {b o}, H b = some o → setL (setL L x.a 3) x.d 4 b = L b := fun {b o} e => by rw [setL_ne (ne_of_none e hd), setL_ne (ne_of_none e hx)]
  have hlL : setL (setL L x.a 3) x.d 4 A.hl = 2 := by rw [lab N.hl.1]; exact N.hl.2
  have mv : ∀ {k b o}, At L H k b o → k ≠ 2 → At (setL (setL L x.a 3) x.d 4) (upd H' A.hl (.lst ((ps.map fun x => V.ref x.a) ++ [.ref x.a]))) k b o := fun {k b o} e n =>
    ⟨by rw [upd_ne (e.ne N.hl.2 n)]; exact s _ _ e.1, by rw [lab e.1]; exact e.2⟩
  have nxh : x.a ≠ A.hl := (ne_of_none N.hl.1 hx).symm
  have ndh : x.d ≠ A.hl := (ne_of_none N.hl.1 hd).symm
  refine ⟨mv N.ho (by decide), ⟨by rw [List.map_append]; exact upd_same, hlL⟩, fun y hy => ?_, fun y hy => ?_, ?_, ?_⟩
  · rcases List.mem_append.mp hy with hy | hy
    · exact mv (N.per y hy) (by decide)
    · rw [List.mem_singleton.mp hy]
      exact ⟨by rw [upd_ne nxh]; exact hx', by rw [setL_ne nxd, setL_same]⟩
  · rcases List.mem_append.mp hy with hy | hy
    · exact mv (N.dic y hy) (by decide)
    · rw [List.mem_singleton.mp hy]
      exact ⟨by rw [upd_ne ndh]; exact hd', setL_same⟩
  · rw [List.map_append, List.nodup_append]
    refine ⟨N.nda, by simp, fun a ha b hb => ?_⟩
    obtain ⟨y, hy, rfl⟩ := List.mem_map.mp ha
    rw [List.mem_singleton.mp hb]
    exact ne_of_none (N.per y hy).1 hx
  · rw [List.map_append, List.nodup_append]
    refine ⟨N.ndd, by simp, fun a ha b hb => ?_⟩
    obtain ⟨y, hy, rfl⟩ := List.mem_map.mp ha
    rw [List.mem_singleton.mp hb]
    exact ne_of_none (N.dic y hy).1 hd
def spHoAdd (K : PySem.W.Frag) : Sp := sp3 fun a b c H Q => ∃ (L : Lb) (ho : Addr) (A : HA) (ps : List PRec) (dg num : Str), a = .ref ho ∧ b = .str dg ∧ c = .str num ∧ HM K L H ho A ps ∧ ps.length ≤ 1000 ∧ ixOf (ps.map PRec.dg) dg = none ∧ ixOf (ps.map PRec.num) num = none ∧
  ∀ L' H' (x : PRec) v, Step S14 L H L' H' → HM K L' H' ho A (ps ++ [x]) → x.dg = dg → x.num = num → x.ar = .non → x.kvs = [] → Q v H'
theorem ok_Home_add (T : Hd K mg) : OkD P w K mg base d_Home_add 3 P_Home_add (spHoAdd K) := by
  obtain ⟨fd, F⟩ := T.says.def_ 32 (d := d_Home_add) rfl
  obtain ⟨_, F_Home_with_digits, b_Home_with_digits, G_Home_with_digits⟩ := ok_Home_with_digits (P := P) (w := w) (base := base) T
  obtain ⟨_, F_Home_with_number, b_Home_with_number, G_Home_with_number⟩ := ok_Home_with_number (P := P) (w := w) (base := base) T
  obtain ⟨_, F_Person_init, b_Person_init, G_Person_init⟩ := ok_Person_init (P := P) (w := w) (base := base) T
  refine ⟨fd, F, F.bindsN (ps := P_Home_add) (fun _ _ _ _ _ _ us hl => match us, hl with | [_, _, _], _ => rfl), F.ok sc_Home_add (fun vs H Q E h => sp3_len h) (fun cdv A outer s H vs Q E hr h => ?_)⟩
  have hu := hu_of hr
  obtain ⟨a, b, c, rfl, L, ho, B, ps, dg, num, rfl, rfl, rfl, N, hlen, i1, i2, k⟩ := h
  refine ⟨_, PSs.nox (pss_cons (ps_if (pt_cmpR op_notN (pe_meth (pv 0) T.cl_Home T.me_Home_with_digits G_Home_with_digits (hr.mono (by decide)) b_Home_with_digits .nil pass0 (pa_cons (pv 1) pa_nil)) pe_non (nomark _)) (pss_one ps_never) pss_nil) (pss_cons (ps_if (pt_cmpR op_notN (pe_meth (pv 0) T.cl_Home T.me_Home_with_number G_Home_with_number (hr.mono (by decide)) b_Home_with_number .nil pass0 (pa_cons (pv 2) pa_nil)) pe_non (nomark _)) (pss_one ps_never) pss_nil) (pss_cons (ps_expr (pe_bm PySem.F.plainAttrs_list PySem.F.slot_list_append PySem.F.type_list_append mt_append (pe_fld (pv 0) rfl) (pa_cons (pe_make T.mk_Person G_Person_init (hr.mono (by decide)) rfl T.gl_Person b_Person_init .nil pass0 (pa_cons (pv 1) (pa_cons (pv 2) pa_nil))) pa_nil))) (pss_one (ps_ret (pe_op op_sub (pe_callB call_len_seq (by rfl) T.fr_len PySem.boot_len (pa_cons (pe_fld (pv 0) rfl) pa_nil)) pe_int)))))), ?_⟩
  refine ⟨_, rfl, ho, _, _, rfl, N.ho.1, rfl, _, rfl, _, _, rfl, L, ho, B, ps, dg, rfl, rfl, N, fun H1 s1 => ?_⟩
  rw [i1]
  refine ⟨rfl, _, rfl, iteF ?_⟩
  have N1 := N.same s1
  refine ⟨_, rfl, ho, _, _, rfl, N1.ho.1, rfl, _, rfl, _, _, rfl, L, ho, B, ps, num, rfl, rfl, N1, fun H2 s2 => ?_⟩
  rw [i2]
  refine ⟨rfl, _, rfl, iteF ?_⟩
  have N2 := N1.same s2
  refine ⟨_, rfl, _, cHo K, _, _, _, rfl, N2.ho.1, T.cl_Home, T.na_Home_rows, rfl, .inl ⟨rfl, _, SqL.of N2.hl.1⟩, _, rfl, _, rfl, ?_⟩
  intro x dx nx ndx nex
  refine ⟨_, _, _, rfl, x, dx, dg, num, rfl, rfl, rfl, upd_same, fun H3 d hd hx3 hd3 keep => ⟨rfl, ?_⟩⟩
  have s3 : Same H2 H3 := Same.made nx ndx keep
  have hd2 : H2 d = none := upd_free (upd_free hd)
  have hl3 := s3 _ _ N2.hl.1
  refine ⟨B.hl, _, _, rfl, rfl, hl3, ?_, ?_⟩
  · rw [List.length_map]
    exact small1000 hlen
  have s23 := (s1.trans s2)
  have N3 := HM.add (x := ⟨x, dx, d, dg, num, .non, []⟩) N2 s3 nx hd2 hx3 hd3
  refine ⟨_, rfl, _, cHo K, _, _, _, rfl, N3.ho.1, T.cl_Home, T.na_Home_rows, rfl, _, _, rfl, .inl (SqL.of N3.hl.1), _, _, rfl, rfl, ?_⟩
  refine k _ _ ⟨x, dx, d, dg, num, .non, []⟩ _ ?_ N3 rfl rfl rfl rfl
  exact ((((Step.same (L := L) s23).trans (Step.relab nx)).trans (Step.relab hd2)).trans (Step.same s3)).trans (Step.write hl3 (by intro _ z; cases z) (by rw [N3.hl.2]; exact ⟨by decide, by decide⟩))
end
end Mob

set_option Elab.async false
set_option linter.all false
set_option maxRecDepth 100000
set_option maxHeartbeats 4000000
namespace Mob
open PySem PySem.Spec PyProof.Rows L2
section
variable {P : Program} {w : World} {K : PySem.W.Frag} {mg : Str → Option Value} {base : Heap}
/-! ### facts of persons; rule_for, find_goal -/
def numKvs (f : Fct) : List (Key × V) := [(Sum.inr "always", oS f.al), (Sum.inr "busy", oS f.bu), (Sum.inr "unanswered", oS f.un), (Sum.inr "unreachable", oS f.ur)]
theorem num_get (f : Fct) (k : Kd) : (valV (numKvs f) (Sum.inr k.s)).getD .non = oS (f.fw k) := by
  cases k <;> rfl
theorem num_put (f : Fct) (k : Kd) (x : Option Str) : putK (numKvs f) (Sum.inr k.s) (oS x) = numKvs (f.setFw k x) := by
  cases k <;> rfl
/-- the register says the facts -/
structure Says (ps : List PRec) (E : Env0) : Prop where
  nums : E.nums = ps.map (·.num)
  len : E.fs.length = ps.length
  ok : ∀ (i : Nat) (x : PRec), ps[i]? = some x → x.ar = oI (E.fs.getD i fct0).ar ∧ x.kvs = numKvs (E.fs.getD i fct0)
theorem Says.at_ {ps : List PRec} {E : Env0} (h : Says ps E) {i : Nat} (hi : i < E.nums.length) : ∃ x, ps[i]? = some x := by
  rw [h.nums, List.length_map] at hi
  exact ⟨ps[i], List.getElem?_eq_getElem hi⟩
def kdO : Option Kd → V
  | none => .non
  | some k => .str k.s
def spRule (K : PySem.W.Frag) : Sp := sp4 fun a b c d H Q => ∃ (L : Lb) (ho : Addr) (A : HA) (ps : List PRec) (E : Env0) (i : Nat) (x : PRec) (caller : Int) (bz : Addr) (busy : List Int), a = .ref ho ∧ b = .int (i : Int) ∧ c = .int caller ∧ d = .ref bz ∧ HM K L H ho A ps ∧ Says ps E ∧ ps[i]? = some x ∧ SqL K H bz (busy.map V.int) ∧
  ∀ t H', Same H H' → H' t = some (.tup [kdO (rule (E.fs.getD i fct0) i caller busy).1, .int (rule (E.fs.getD i fct0) i caller busy).2]) → Q (.ref t) H'
theorem oS_non (o : Option Str) : decide (oS o = V.non) = o.isNone := by cases o <;> simp [oS]
theorem oI_non (o : Option Int) : decide (oI o = V.non) = o.isNone := by cases o <;> simp [oI]
theorem inV_int (p : Int) (l : List Int) : inV (.int p) (l.map V.int) = decide (p ∈ l) := by
  unfold inV
  rw [List.any_map]
  induction l with
  | nil => simp
  | cons a l ih =>
    rw [List.any_cons, ih]
    show (decide (a = p) || decide (p ∈ l)) = _
    by_cases h : a = p
    · subst h; simp
    · have : ¬ p = a := fun z => h z.symm
      simp [h, this]
theorem flat_ints (l : List Int) : (l.map V.int).all flatV = true := by
  rw [List.all_map]
  exact List.all_eq_true.mpr fun x _ => rfl
theorem ok_rule_for (T : Hd K mg) : OkD P w K mg base d_rule_for 3 P_rule_for (spRule K) := by
  obtain ⟨fd, F⟩ := T.says.def_ 4 (d := d_rule_for) rfl
  obtain ⟨_, F_Home_forward, b_Home_forward, G_Home_forward⟩ := ok_Home_forward (P := P) (w := w) (base := base) T
  obtain ⟨_, F_Home_area, b_Home_area, G_Home_area⟩ := ok_Home_area (P := P) (w := w) (base := base) T
  refine ⟨fd, F, F.bindsN (ps := P_rule_for) (fun _ _ _ _ _ _ us hl => match us, hl with | [_, _, _, _], _ => rfl), F.ok sc_rule_for (fun vs H Q E h => sp4_len h) (fun cdv A outer s H vs Q E hr h => ?_)⟩
  have hu := hu_of hr
  obtain ⟨a, b, c, d, rfl, L, ho, B, ps, Ev, i, x, caller, bz, busy, rfl, rfl, rfl, rfl, N, Sy, hx, hb, k⟩ := h
  have hok := Sy.ok i x hx
  refine ⟨_, PSs.nox (pss_cons (ps_if (pt_cmpR op_notN (pe_meth (pv 0) T.cl_Home T.me_Home_forward G_Home_forward (hr.mono (by decide)) b_Home_forward .nil pass0 (pa_cons (pv 1) (pa_cons pe_str pa_nil))) pe_non (nomark _)) (pss_one (ps_ret (pe_tup (pa_cons pe_str (pa_cons pe_int pa_nil))))) pss_nil) (pss_cons (ps_if ((pw_or (pt_cmpR op_eq (pv 1) (pv 2) (nomark _)) (pw_or1 (pt_cmpR op_in_seq (pv 1) (pv 3) rfl)))).pt (pss_one (ps_ret (pe_tup (pa_cons pe_str (pa_cons pe_int pa_nil))))) pss_nil) (pss_cons (ps_if (pt_cmpR op_isN (pe_meth (pv 0) T.cl_Home T.me_Home_area G_Home_area (hr.mono (by decide)) b_Home_area .nil pass0 (pa_cons (pv 1) pa_nil)) pe_non (nomark _)) (pss_one (ps_ret (pe_tup (pa_cons pe_str (pa_cons pe_int pa_nil))))) pss_nil) (pss_one (ps_ret (pe_tup (pa_cons pe_non (pa_cons pe_int pa_nil)))))))), ?_⟩
  refine ⟨_, rfl, ho, _, _, rfl, N.ho.1, rfl, _, rfl, _, _, _, rfl, L, ho, B, ps, i, x, Kd.al.s, rfl, rfl, rfl, N, hx, ?_⟩
  rw [hok.2, num_get]
  refine ⟨rfl, _, rfl, ?_⟩
  show (if (!decide (oS (Ev.fs.getD i fct0).al = V.non)) = true then _ else _)
  rw [oS_non]
  cases h1 : (Ev.fs.getD i fct0).al with
  | some z =>
    have e : rule (Ev.fs.getD i fct0) i caller busy = (some .al, 0) := by unfold rule; rw [if_pos (by rw [h1]; rfl)]
    rw [e] at k
    refine ⟨by show 2 ≤ sizeLine; decide, fun t ht => ?_⟩
    exact k t _ (same_new ht) upd_same
  | none =>
    refine iteF ?_
    refine ⟨_, rfl, _, rfl, rfl, _, rfl, ?_⟩
    rw [decVI]
    cases h2 : decide ((i : Int) = caller) with
    | true =>
      have e : rule (Ev.fs.getD i fct0) i caller busy = (some .bu, 17) := by unfold rule; rw [if_neg (by rw [h1]; simp), if_pos (.inl (of_decide_eq_true h2))]
      rw [e] at k
      refine ⟨by show 2 ≤ sizeLine; decide, fun t ht => ?_⟩
      exact k t _ (same_new ht) upd_same
    | false =>
      refine iteF ?_
      refine ⟨_, rfl, _, rfl, _, _, rfl, .inl hb, rfl, flat_ints _, _, rfl, ?_⟩
      show (if inV (.int (i : Int)) (busy.map V.int) = true then _ else _)
      rw [inV_int]
      cases h3 : decide ((i : Int) ∈ busy) with
      | true =>
        have e : rule (Ev.fs.getD i fct0) i caller busy = (some .bu, 17) := by unfold rule; rw [if_neg (by rw [h1]; simp), if_pos (.inr (of_decide_eq_true h3))]
        rw [e] at k
        refine ⟨by show 2 ≤ sizeLine; decide, fun t ht => ?_⟩
        exact k t _ (same_new ht) upd_same
      | false =>
        have hn : ¬ ((i : Int) = caller ∨ (i : Int) ∈ busy) := fun z => z.elim (of_decide_eq_false h2) (of_decide_eq_false h3)
        refine ⟨_, rfl, ho, _, _, rfl, N.ho.1, rfl, _, rfl, _, _, rfl, L, ho, B, ps, i, x, rfl, rfl, N, hx, ?_⟩
        rw [hok.1]
        refine ⟨rfl, _, rfl, ?_⟩
        rw [oI_non]
        cases h4 : (Ev.fs.getD i fct0).ar with
        | none =>
          have e : rule (Ev.fs.getD i fct0) i caller busy = (some .ur, 20) := by unfold rule; rw [if_neg (by rw [h1]; simp), if_neg hn, if_pos (by rw [h4]; rfl)]
          rw [e] at k
          refine ⟨by show 2 ≤ sizeLine; decide, fun t ht => ?_⟩
          exact k t _ (same_new ht) upd_same
        | some z =>
          have e : rule (Ev.fs.getD i fct0) i caller busy = (none, 0) := by unfold rule; rw [if_neg (by rw [h1]; simp), if_neg hn, if_neg (by rw [h4]; simp)]
          rw [e] at k
          refine ⟨by show 2 ≤ sizeLine; decide, fun t ht => ?_⟩
          exact k t _ (same_new ht) upd_same
def spGoal (K : PySem.W.Frag) : Sp := sp5 fun a b c d e H Q => ∃ (L : Lb) (ho : Addr) (A : HA) (ps : List PRec) (E : Env0) (num : Str) (caller : Int) (bz : Addr) (busy : List Int) (h : Int), a = .ref ho ∧ b = .str num ∧ c = .int caller ∧ d = .ref bz ∧ e = .int h ∧ HM K L H ho A ps ∧ Says ps E ∧ SqL K H bz (busy.map V.int) ∧ 0 ≤ h ∧ h ≤ 2 ∧
  ∀ t H', Same H H' → H' t = some (.tup [oI (goalN E.nums E.fs caller busy 4 num h).1, .int (goalN E.nums E.fs caller busy 4 num h).2.1, .int (goalN E.nums E.fs caller busy 4 num h).2.2]) → Q (.ref t) H'
theorem kdO_non (o : Option Kd) : decide (kdO o = V.non) = o.isNone := by cases o <;> simp [kdO]
theorem natO_non (o : Option Nat) : decide (natO o = V.non) = o.isNone := by cases o <;> simp [natO]
theorem ok_find_goal (T : Hd K mg) : OkD P w K mg base d_find_goal 4 P_find_goal (spGoal K) := by
  obtain ⟨fd, F⟩ := T.says.def_ 5 (d := d_find_goal) rfl
  obtain ⟨_, F_Home_with_number, b_Home_with_number, G_Home_with_number⟩ := ok_Home_with_number (P := P) (w := w) (base := base) T
  obtain ⟨_, F_rule_for, b_rule_for, G_rule_for⟩ := ok_rule_for (P := P) (w := w) (base := base) T
  obtain ⟨_, F_Home_forward, b_Home_forward, G_Home_forward⟩ := ok_Home_forward (P := P) (w := w) (base := base) T
  obtain ⟨_, v_HOPS⟩ := T.v_HOPS
  refine ⟨fd, F, F.bindsN (ps := P_find_goal) (fun _ _ _ _ _ _ us hl => match us, hl with | [_, _, _, _, _], _ => rfl), F.ok sc_find_goal (fun vs H Q E h => sp5_len h) (fun cdv A outer s H vs Q E hr h => ?_)⟩
  have hu := hu_of hr
  obtain ⟨a, b, c, d, e, rfl, L, ho, B, ps, Ev, num, caller, bz, busy, h0, rfl, rfl, rfl, rfl, rfl, N, Sy, hb, p1, p2, k⟩ := h
  refine ⟨_, PSs.nox (pss_one (ps_while PassesOwn.never (pt_val pe_bl) (pss_cons (ps_set (i := 5) sc_find_goal.nd rfl (Or.inl rfl) (pe_meth (pv 0) T.cl_Home T.me_Home_with_number G_Home_with_number (hr.mono (by decide)) b_Home_with_number .nil pass0 (pa_cons (pv 1) pa_nil))) (pss_cons (ps_if (pt_cmpR op_isN (pv 5) pe_non (nomark _)) (pss_one (ps_ret (pe_tup (pa_cons pe_non (pa_cons pe_int (pa_cons (pv 4) pa_nil)))))) pss_nil) (pss_cons (ps_asg (pe_call G_rule_for (hr.mono (by decide)) (by rfl) T.gl_rule_for F_rule_for.kp b_rule_for .nil pass0 (pa_cons (pv 0) (pa_cons (pv 5) (pa_cons (pv 2) (pa_cons (pv 3) pa_nil))))) (pg_tup rfl (pgs_cons (pg_name (i := 6) sc_find_goal.nd rfl (Or.inl rfl)) (pgs_cons (pg_name (i := 7) sc_find_goal.nd rfl (Or.inl rfl)) pgs_nil)))) (pss_cons (ps_if (pt_cmpR op_isN (pv 6) pe_non (nomark _)) (pss_one (ps_ret (pe_tup (pa_cons (pv 5) (pa_cons pe_int (pa_cons (pv 4) pa_nil)))))) pss_nil) (pss_cons (ps_set (i := 1) sc_find_goal.nd rfl (Or.inl rfl) (pe_meth (pv 0) T.cl_Home T.me_Home_forward G_Home_forward (hr.mono (by decide)) b_Home_forward .nil pass0 (pa_cons (pv 5) (pa_cons (pv 6) pa_nil)))) (pss_cons (ps_if (pt_cmpR op_isN (pv 1) pe_non (nomark _)) (pss_one (ps_ret (pe_tup (pa_cons pe_non (pa_cons (pv 7) (pa_cons (pv 4) pa_nil)))))) pss_nil) (pss_cons (ps_if (pt_cmpR op_ge (pv 4) (pe_glob (v := .int 2) (by rfl) v_HOPS ⟨_, rfl⟩) (nomark _)) (pss_one (ps_ret (pe_tup (pa_cons pe_non (pa_cons pe_int (pa_cons (pv 4) pa_nil)))))) pss_nil) (pss_one (ps_set (i := 4) sc_find_goal.nd rfl (Or.inl rfl) (pe_op op_add (pv 4) pe_int)))))))))))), ?_⟩
  refine ⟨fun m σ H2 => ∃ (num' : Str) (h' : Int) (u v w : Option V), σ = [some (.ref ho), some (.str num'), some (.int caller), some (.ref bz), some (.int h'), u, v, w] ∧ Same H H2 ∧ goalN Ev.nums Ev.fs caller busy m num' h' = goalN Ev.nums Ev.fs caller busy 4 num h0 ∧ 3 ≤ (m : Int) + h' ∧ 0 ≤ h' ∧ h' ≤ 2,
    ⟨4, num, h0, none, none, none, rfl, Same.refl H, rfl, by omega, p1, p2⟩, ?_⟩
  rintro m σ H2 ⟨num', h', u, v, w, rfl, s2, eg, q1, q2, q3⟩
  obtain ⟨f, rfl⟩ : ∃ f, m = f + 1 := ⟨m - 1, by omega⟩
  have N2 := N.same s2
  refine ⟨true, rfl, fun σ H2 => ∃ m', m' < f + 1 ∧ ∃ (num' : Str) (h' : Int) (u v w : Option V), σ = [some (.ref ho), some (.str num'), some (.int caller), some (.ref bz), some (.int h'), u, v, w] ∧ Same H H2 ∧ goalN Ev.nums Ev.fs caller busy m' num' h' = goalN Ev.nums Ev.fs caller busy 4 num h0 ∧ 3 ≤ (m' : Int) + h' ∧ 0 ≤ h' ∧ h' ≤ 2, fun _ _ z => z, ?_⟩
  refine ⟨_, rfl, ho, _, _, rfl, N2.ho.1, rfl, _, rfl, _, _, rfl, L, ho, B, ps, num', rfl, rfl, N2, fun H3 s3 => ?_⟩
  rw [← Sy.nums]
  have N3 := N2.same s3
  have s03 := s2.trans s3
  cases hi : ixOf Ev.nums num' with
  | none =>
    have e2 : goalN Ev.nums Ev.fs caller busy (f + 1) num' h' = (none, 1, h') := by
      unfold goalN
      rw [hi]
    rw [← eg, e2] at k
    refine ⟨_, rfl, rfl, _, rfl, iteT ?_⟩
    refine ⟨_, rfl, by show 3 ≤ sizeLine; decide, fun t ht => ?_⟩
    exact k t _ (s03.trans (same_new ht)) upd_same
  | some i =>
    obtain ⟨x, hx⟩ := Sy.at_ (ixOf_lt hi)
    refine ⟨_, rfl, rfl, _, rfl, iteF ?_⟩
    refine ⟨_, rfl, _, rfl, _, rfl, _, rfl, _, _, _, _, rfl, L, ho, B, ps, Ev, i, x, caller, bz, busy, rfl, rfl, rfl, rfl, N3, Sy, hx, s03.seq hb, fun t H4 s4 ht => ?_⟩
    have N4 := N3.same s4
    have s04 := s03.trans s4
    refine ⟨t, _, rfl, SqT.of ht, rfl, _, _, rfl, _, _, rfl, rfl, ?_⟩
    cases hr : rule (Ev.fs.getD i fct0) i caller busy with
    | mk kd c0 =>
      refine ⟨_, rfl, rfl, _, rfl, ?_⟩
      show (if decide (kdO kd = V.non) = true then _ else _)
      rw [kdO_non]
      cases kd with
      | none =>
        have e2 : goalN Ev.nums Ev.fs caller busy (f + 1) num' h' = (some (i : Int), 0, h') := by
          unfold goalN
          simp only [hi, hr]
        rw [← eg, e2] at k
        refine iteT ⟨_, rfl, _, rfl, by show 3 ≤ sizeLine; decide, fun u hu => ?_⟩
        exact k u _ (s04.trans (same_new hu)) upd_same
      | some kd =>
        refine iteF ?_
        refine ⟨_, rfl, ho, _, _, rfl, N4.ho.1, rfl, _, rfl, _, rfl, _, _, _, rfl, L, ho, B, ps, i, x, kd.s, rfl, rfl, rfl, N4, hx, ?_⟩
        rw [(Sy.ok i x hx).2, num_get]
        refine ⟨_, rfl, rfl, _, rfl, ?_⟩
        rw [oS_non]
        cases hf : (Ev.fs.getD i fct0).fw kd with
        | none =>
          have e2 : goalN Ev.nums Ev.fs caller busy (f + 1) num' h' = (none, c0, h') := by
            unfold goalN
            simp only [hi, hr, hf]
          rw [← eg, e2] at k
          refine iteT ⟨_, rfl, _, rfl, by show 3 ≤ sizeLine; decide, fun u hu => ?_⟩
          exact k u _ (s04.trans (same_new hu)) upd_same
        | some num2 =>
          refine iteF ?_
          refine ⟨_, rfl, _, _, rfl, rfl, _, rfl, ?_⟩
          show (if decide (2 ≤ h') = true then _ else _)
          cases hh : decide (2 ≤ h') with
          | true =>
            have e2 : goalN Ev.nums Ev.fs caller busy (f + 1) num' h' = (none, 31, h') := by
              unfold goalN
              simp only [hi, hr, hf]
              rw [if_pos (of_decide_eq_true hh)]
            rw [← eg, e2] at k
            refine iteT ⟨_, rfl, by show 3 ≤ sizeLine; decide, fun u hu => ?_⟩
            exact k u _ (s04.trans (same_new hu)) upd_same
          | false =>
            have hh' := of_decide_eq_false hh
            have e2 : goalN Ev.nums Ev.fs caller busy (f + 1) num' h' = goalN Ev.nums Ev.fs caller busy f num2 (h' + 1) := by
              conv => lhs; unfold goalN
              simp only [hi, hr, hf]
              rw [if_neg hh']
            refine iteF ⟨_, rfl, _, _, rfl, rfl, ?_⟩
            exact ⟨f, Nat.lt_succ_self f, num2, h' + 1, _, _, _, rfl, s04, by rw [← e2, eg], by omega, by omega, by omega⟩
end
end Mob

set_option Elab.async false
set_option linter.all false
set_option maxRecDepth 100000
set_option maxHeartbeats 4000000
namespace Mob
open PySem PySem.Spec PyProof.Rows L2
/-! ### events of the switch: what is common -/
theorem nd_inj {α β : Type} {f : α → β} : ∀ {l : List α} {x y : α}, (l.map f).Nodup → x ∈ l → y ∈ l → f x = f y → x = y
  | [], _, _, _, h, _, _ => by simp at h
  | a :: r, x, y, hn, hx, hy, e => by
    rw [List.map_cons, List.nodup_cons] at hn
    rcases List.mem_cons.mp hx with ex | hx
    · rcases List.mem_cons.mp hy with ey | hy
      · rw [ex, ey]
      · exact (hn.1 (List.mem_map.mpr ⟨y, hy, by rw [← e, ex]⟩)).elim
    · rcases List.mem_cons.mp hy with ey | hy
      · exact (hn.1 (List.mem_map.mpr ⟨x, hx, by rw [e, ey]⟩)).elim
      · exact nd_inj hn.2 hx hy e
theorem ac_caller {ac : List (Addr × CallR)} {x y : Addr × CallR} (hnd : (sidesI (ac.map (·.2))).Nodup) (hx : x ∈ ac) (hy : y ∈ ac) (e : x.2.caller = y.2.caller) : x = y :=
  nd_inj (f := fun x : Addr × CallR => x.2.caller) (by have := callers_nd hnd; rw [List.map_map] at this; exact this) hx hy e
theorem setA_snd {ac : List (Addr × CallR)} {c : Addr} {r : CallR} (hnd : (sidesI (ac.map (·.2))).Nodup) (hN : (ac.map (·.1)).Nodup) (hx : (c, r) ∈ ac) (r' : CallR) : (setA ac c r').map (·.2) = updC (ac.map (·.2)) r.caller r' := by
  unfold setA updC
  rw [List.map_map, List.map_map]
  refine List.map_congr_left fun y hy => ?_
  show (if y.1 = c then (c, r') else y).2 = if y.2.caller = r.caller then r' else y.2
  by_cases h : y.1 = c
  · have e : y = (c, r) := fst_one hN hy hx h
    rw [if_pos h, if_pos (by rw [e])]
  · rw [if_neg h, if_neg fun q => h (by rw [ac_caller hnd hy hx q])]
theorem dropA_snd {ac : List (Addr × CallR)} {c : Int} : (ac.filter fun x => decide (x.2.caller ≠ c)).map (·.2) = dropC (ac.map (·.2)) c := by
  unfold dropC
  rw [List.filter_map]
  rfl
section
variable {K : PySem.W.Frag} {L L' : Lb} {H H1 H' : Hp} {sw ho : Addr} {A : PA} {ac : List (Addr × CallR)} {al : List (Addr × LineR)} {Q : VK} {f : List PyData × Net} {v : V} {ds : List PyData}
theorem PPost.after (s : Step S59 L H L' H1) (k : PPost K L H sw ho f Q) : PPost K L' H1 sw ho f Q :=
  fun L2 H2 A' ac' al' v st N e1 e2 a => k L2 H2 A' ac' al' v (s.trans st) N e1 e2 a
theorem PPost.ext (s : Same H H1) (k : PPost K L H sw ho f Q) : PPost K L H1 sw ho f Q := k.after (Step.same s)
theorem PPost.end_ (N : PN K L H1 sw ho A ac al) (h : New H1 H' v ds) (k : PPost K L H1 sw ho (ds, ⟨ac.map (·.2), al.map (·.2)⟩) Q) : Q v H' := by
  obtain ⟨L', s, a, _⟩ := New.al (L := L) h (fun _ => False)
  exact k L' H' A ac al v (s.mono fun _ z => z.elim) (N.keep s fun _ _ _ z => z) rfl rfl a
/-- a call is changed in place, then the actions -/
theorem PPost.call (N : PN K L H sw ho A ac al) {c dc : Addr} {r r' : CallR} (hx : (c, r) ∈ ac) (hnd : (sidesI (ac.map (·.2))).Nodup) (h : New (upd H c (.ins (cCl K) dc (callFs r'))) H' v ds)
    (k : PPost K L H sw ho (ds, ⟨updC (ac.map (·.2)) r.caller r', al.map (·.2)⟩) Q) : Q v H' := by
  have N1 := N.setCall (dc := dc) (r' := r') hx
  refine PPost.end_ N1 h ?_
  rw [setA_snd hnd N.nd hx]
  exact k.after (Step.call N hx ⟨by decide, by decide⟩)
theorem upd_twice {H : Hp} {a : Addr} {o u : HO} : upd (upd H a o) a u = upd H a u := upd_upd
end
theorem calledA_none {ac : List (Addr × CallR)} {p : Int} {ok : CallR → Bool} (h : calledA ac p ok = none) : findC (ac.map (·.2)) p = none ∨ ∃ r, findC (ac.map (·.2)) p = some r ∧ ¬ (r.called = some p ∧ ok r = true) := by
  unfold calledA at h
  cases e : findA ac p with
  | none =>
    refine .inl ?_
    rw [← findA_snd, e]
    rfl
  | some x =>
    rw [e] at h
    refine .inr ⟨x.2, by rw [← findA_snd, e]; rfl, fun z => ?_⟩
    have h : (if x.2.called = some p ∧ ok x.2 = true then some x else none) = none := h
    rw [if_pos z] at h
    cases h
theorem calledA_some {ac : List (Addr × CallR)} {p : Int} {ok : CallR → Bool} {x : Addr × CallR} (h : calledA ac p ok = some x) : x ∈ ac ∧ findC (ac.map (·.2)) p = some x.2 ∧ x.2.called = some p ∧ ok x.2 = true := by
  unfold calledA at h
  cases e : findA ac p with
  | none => rw [e] at h; cases h
  | some y =>
    rw [e] at h
    have h : (if y.2.called = some p ∧ ok y.2 = true then some y else none) = some x := h
    by_cases z : y.2.called = some p ∧ ok y.2 = true
    · rw [if_pos z] at h
      obtain rfl : y = x := Option.some.inj h
      exact ⟨findA_mem e, by rw [← findA_snd, e]; rfl, z⟩
    · rw [if_neg z] at h; cases h
end Mob

set_option Elab.async false
set_option linter.all false
set_option maxRecDepth 100000
set_option maxHeartbeats 4000000
namespace Mob
open PySem PySem.Spec PyProof.Rows L2
section
variable {P : Program} {w : World} {K : PySem.W.Frag} {mg : Str → Option Value} {base : Heap}
/-! ### Switch: answered, alerting, connect, word -/
/-- what the events lean on -/
structure PEv (K : PySem.W.Frag) (L : Lb) (H : Hp) (sw ho : Addr) (A : PA) (ac : List (Addr × CallR)) (al : List (Addr × LineR)) : Prop where
  N : PN K L H sw ho A ac al
  nd : (sidesI (ac.map (·.2))).Nodup
def spAnswered (K : PySem.W.Frag) : Sp := sp3 fun a b c H Q => ∃ (L : Lb) (sw ho : Addr) (A : PA) (ac : List (Addr × CallR)) (al : List (Addr × LineR)) (Ah : HA) (ps : List PRec) (E : Env0) (p t : Int), a = .ref sw ∧ b = .int p ∧ c = .int t ∧ PEv K L H sw ho A ac al ∧ HM K L H ho Ah ps ∧ Says ps E ∧
  (∀ x ∈ ac, 0 ≤ x.2.caller ∧ x.2.caller < E.nums.length) ∧ PPost K L H sw ho (mAnswered E ⟨ac.map (·.2), al.map (·.2)⟩ p t) Q
theorem stage_put (r : CallR) (s : Stg) : putF "stage" (.str s.s) (callFs r) = callFs { r with st := s } := rfl
theorem since_put (r : CallR) (t : Int) : putF "since" (.int t) (callFs r) = callFs { r with since := t } := rfl
theorem ok_Switch_answered (T : Hd K mg) : OkD P w K mg base d_Switch_answered 3 P_Switch_answered (spAnswered K) := by
  obtain ⟨fd, F⟩ := T.says.def_ 17 (d := d_Switch_answered) rfl
  obtain ⟨_, F_Switch_called_in, b_Switch_called_in, G_Switch_called_in⟩ := ok_Switch_called_in (P := P) (w := w) (base := base) T
  obtain ⟨_, F_Home_number, b_Home_number, G_Home_number⟩ := ok_Home_number (P := P) (w := w) (base := base) T
  refine ⟨fd, F, F.bindsN (ps := P_Switch_answered) (fun _ _ _ _ _ _ us hl => match us, hl with | [_, _, _], _ => rfl), F.ok sc_Switch_answered (fun vs H Q E h => sp3_len h) (fun cdv A outer s H vs Q E hr h => ?_)⟩
  have hu := hu_of hr
  obtain ⟨a, b, c, rfl, L, sw, ho, B, ac, al, Ah, ps, Ev, p, tk, rfl, rfl, rfl, ⟨N, hnd⟩, M, Sy, hval, k⟩ := h
  refine ⟨_, PSs.nox (pss_cons (ps_set (i := 3) sc_Switch_answered.nd rfl (Or.inl rfl) (pe_meth (pv 0) T.cl_Switch T.me_Switch_called_in G_Switch_called_in (hr.mono (by decide)) b_Switch_called_in .nil pass0 (pa_cons (pv 1) (pa_cons (pe_tup (pa_cons pe_str pa_nil)) pa_nil)))) (pss_cons (ps_if (pt_cmpR op_isN (pv 3) pe_non (nomark _)) (pss_one (ps_ret (pe_lst pa_nil))) pss_nil) (pss_cons (ps_fld (pv 3) pe_str rfl) (pss_cons (ps_fld (pv 3) (pv 2) rfl) (pss_one (ps_ret (pe_lst (pa_cons (pe_tup (pa_cons pe_str (pa_cons (pv 1) (pa_cons (pe_tup (pa_cons pe_str (pa_cons (pe_meth (pe_fld (pv 0) rfl) T.cl_Home T.me_Home_number G_Home_number (hr.mono (by decide)) b_Home_number .nil pass0 (pa_cons (pe_fld (pv 3) rfl) pa_nil)) pa_nil))) pa_nil)))) pa_nil)))))))), ?_⟩
  refine ⟨_, rfl, sw, _, _, rfl, N.sw.1, rfl, _, rfl, by show 1 ≤ sizeLine; decide, fun t ht => ⟨_, _, _, rfl, L, sw, ho, B, ac, al, p, t, _, fun r => decide (r.st = .looking), rfl, rfl, rfl, N.same (same_new ht), upd_same, rfl, fun r => in1 r.st .looking, ?_⟩⟩
  have k1 := k.ext (same_new (o := .tup [.str "looking"]) ht)
  have N1 := N.same (same_new (o := .tup [.str "looking"]) ht)
  have M1 := M.same (same_new (o := .tup [.str "looking"]) ht)
  clear k
  cases e : calledA ac p (fun r => decide (r.st = .looking)) with
  | none =>
    have em : mAnswered Ev ⟨ac.map (·.2), al.map (·.2)⟩ p tk = ([], ⟨ac.map (·.2), al.map (·.2)⟩) := by
      unfold mAnswered
      rcases calledA_none e with q | ⟨r, q, hq⟩
      · simp only [q]
      · simp only [q]
        rw [if_neg (fun z => hq ⟨z.1, decide_eq_true z.2⟩)]
    rw [em] at k1
    refine ⟨_, rfl, rfl, _, rfl, iteT ⟨Nat.zero_le _, fun l hl => ?_⟩⟩
    exact PPost.end_ N1 (new_nil hl) k1
  | some x =>
    obtain ⟨hx, q, h1, h2⟩ := calledA_some e
    have h2 := of_decide_eq_true h2
    obtain ⟨cA, r⟩ := x
    have em : mAnswered Ev ⟨ac.map (·.2), al.map (·.2)⟩ p tk = ([tellD p (.tuple [.str "setup", .str (Ev.nums.getD r.caller.toNat Str.empty)])], ⟨updC (ac.map (·.2)) r.caller { r with st := .offered, since := tk }, al.map (·.2)⟩) := by
      unfold mAnswered
      simp only [q]
      rw [if_pos ⟨h1, h2⟩]
    rw [em] at k1
    obtain ⟨dc, hc⟩ := N1.calls _ hx
    refine ⟨_, rfl, rfl, _, rfl, iteF ?_⟩
    refine ⟨_, rfl, _, _, _, _, rfl, hc.1, T.cl_Call, T.na_Call_stage, (by show 6 < 1000; decide), ?_⟩
    refine ⟨_, rfl, _, rfl, _, _, _, _, rfl, upd_same, T.cl_Call, T.na_Call_since, (by show 6 < 1000; decide), ?_⟩
    have eH : ∀ H : Hp, upd (upd H cA (.ins (cCl K) dc (putF "stage" (.str "offered") (callFs r)))) cA (.ins (cCl K) dc (putF "since" (.int tk) (putF "stage" (.str "offered") (callFs r)))) = upd H cA (.ins (cCl K) dc (callFs { r with st := .offered, since := tk })) := fun H => upd_upd
    rw [eH]
    have N2 := N1.setCall (dc := dc) (r' := { r with st := .offered, since := tk }) hx
    have M2 := M1.keep (Step.call (S := S59) N1 (dc := dc) (r' := { r with st := .offered, since := tk }) hx ⟨by decide, by decide⟩) (fun k q1 q2 z => by unfold S59 at z; omega)
    obtain ⟨dc2, hc2⟩ := N2.calls (cA, { r with st := .offered, since := tk }) (List.mem_map.mpr ⟨_, hx, if_pos rfl⟩)
    obtain ⟨v0, v1⟩ := hval _ hx
    obtain ⟨i, hi⟩ : ∃ i : Nat, r.caller = (i : Int) := ⟨r.caller.toNat, by have : 0 ≤ r.caller := v0; omega⟩
    have hil : i < Ev.nums.length := by have : r.caller < Ev.nums.length := v1; omega
    obtain ⟨pr, hpr⟩ := Sy.at_ hil
    have en : Ev.nums.getD r.caller.toNat Str.empty = pr.num := by
      rw [hi, Int.toNat_natCast, Sy.nums, List.getD_eq_getElem?_getD, List.getElem?_map, hpr]
      rfl
    refine ⟨_, rfl, _, rfl, _, _, _, _, _, rfl, N2.sw.1, T.cl_Switch, T.na_Switch_home, rfl, ho, _, _, rfl, M2.ho.1, rfl, _, rfl, _, _, _, _, _, rfl, hc2.1, T.cl_Call, T.na_Call_caller, rfl, _, _, rfl, L, ho, Ah, ps, i, pr, rfl, by show V.int r.caller = _; rw [hi], M2, hpr, ?_⟩
    refine ⟨by show 2 ≤ sizeLine; decide, fun m hm => ⟨by show 3 ≤ sizeLine; decide, fun u hu => ⟨by show 1 ≤ sizeLine; decide, fun l hl => ?_⟩⟩⟩
    rw [en] at k1
    refine PPost.call (dc := dc) N1 hx hnd ⟨((same_new hm).trans (same_new hu)).trans (same_new hl), l, _, rfl, upd_free (upd_free hl), upd_same, ?_⟩ k1
    exact .cons (.tup (upd_old upd_same hl) (.cons (.str _) (.cons (.int _) (.cons (.tup (upd_old (upd_old upd_same hu) hl) (.cons (.str _) (.cons (.str _) .nil))) .nil)))) .nil
end
end Mob

set_option Elab.async false
set_option linter.all false
set_option maxRecDepth 100000
set_option maxHeartbeats 4000000
namespace Mob
open PySem PySem.Spec PyProof.Rows L2
section
variable {P : Program} {w : World} {K : PySem.W.Frag} {mg : Str → Option Value} {base : Heap}
/-! ### Switch: alerting, connect, connected, word -/
def spAlerting (K : PySem.W.Frag) : Sp := sp2 fun a b H Q => ∃ (L : Lb) (sw ho : Addr) (A : PA) (ac : List (Addr × CallR)) (al : List (Addr × LineR)) (p : Int), a = .ref sw ∧ b = .int p ∧ PEv K L H sw ho A ac al ∧ PPost K L H sw ho (mAlerting ⟨ac.map (·.2), al.map (·.2)⟩ p) Q
theorem ok_Switch_alerting (T : Hd K mg) : OkD P w K mg base d_Switch_alerting 3 P_Switch_alerting (spAlerting K) := by
  obtain ⟨fd, F⟩ := T.says.def_ 18 (d := d_Switch_alerting) rfl
  obtain ⟨_, F_Switch_called_in, b_Switch_called_in, G_Switch_called_in⟩ := ok_Switch_called_in (P := P) (w := w) (base := base) T
  refine ⟨fd, F, F.bindsN (ps := P_Switch_alerting) (fun _ _ _ _ _ _ us hl => match us, hl with | [_, _], _ => rfl), F.ok sc_Switch_alerting (fun vs H Q E h => sp2_len h) (fun cdv A outer s H vs Q E hr h => ?_)⟩
  have hu := hu_of hr
  obtain ⟨a, b, rfl, L, sw, ho, B, ac, al, p, rfl, rfl, ⟨N, hnd⟩, k⟩ := h
  refine ⟨_, PSs.nox (pss_cons (ps_set (i := 2) sc_Switch_alerting.nd rfl (Or.inl rfl) (pe_meth (pv 0) T.cl_Switch T.me_Switch_called_in G_Switch_called_in (hr.mono (by decide)) b_Switch_called_in .nil pass0 (pa_cons (pv 1) (pa_cons (pe_tup (pa_cons pe_str pa_nil)) pa_nil)))) (pss_cons (ps_if (pt_cmpR op_isN (pv 2) pe_non (nomark _)) (pss_one (ps_ret (pe_lst pa_nil))) pss_nil) (pss_cons (ps_fld (pv 2) pe_str rfl) (pss_one (ps_ret (pe_lst (pa_cons (pe_tup (pa_cons pe_str (pa_cons (pe_fld (pv 2) rfl) (pa_cons (pe_tup (pa_cons pe_str pa_nil)) pa_nil)))) pa_nil))))))), ?_⟩
  refine ⟨_, rfl, sw, _, _, rfl, N.sw.1, rfl, _, rfl, by show 1 ≤ sizeLine; decide, fun t ht => ⟨_, _, _, rfl, L, sw, ho, B, ac, al, p, t, _, fun r => decide (r.st = .offered), rfl, rfl, rfl, N.same (same_new ht), upd_same, rfl, fun r => in1 r.st .offered, ?_⟩⟩
  have k1 := k.ext (same_new (o := .tup [.str "offered"]) ht)
  have N1 := N.same (same_new (o := .tup [.str "offered"]) ht)
  clear k
  cases e : calledA ac p (fun r => decide (r.st = .offered)) with
  | none =>
    have em : mAlerting ⟨ac.map (·.2), al.map (·.2)⟩ p = ([], ⟨ac.map (·.2), al.map (·.2)⟩) := by
      unfold mAlerting
      rcases calledA_none e with q | ⟨r, q, hq⟩
      · simp only [q]
      · simp only [q]
        rw [if_neg (fun z => hq ⟨z.1, decide_eq_true z.2⟩)]
    rw [em] at k1
    refine ⟨_, rfl, rfl, _, rfl, iteT ⟨Nat.zero_le _, fun l hl => ?_⟩⟩
    exact PPost.end_ N1 (new_nil hl) k1
  | some x =>
    obtain ⟨hx, q, h1, h2⟩ := calledA_some e
    have h2 := of_decide_eq_true h2
    obtain ⟨cA, r⟩ := x
    have em : mAlerting ⟨ac.map (·.2), al.map (·.2)⟩ p = ([tellD r.caller (.tuple [.str "alerting"])], ⟨updC (ac.map (·.2)) r.caller { r with st := .ringing }, al.map (·.2)⟩) := by
      unfold mAlerting
      simp only [q]
      rw [if_pos ⟨h1, h2⟩]
    rw [em] at k1
    obtain ⟨dc, hc⟩ := N1.calls _ hx
    refine ⟨_, rfl, rfl, _, rfl, iteF ?_⟩
    refine ⟨_, rfl, _, _, _, _, rfl, hc.1, T.cl_Call, T.na_Call_stage, (by show 6 < 1000; decide), ?_⟩
    refine ⟨_, rfl, _, _, _, _, _, rfl, upd_same, T.cl_Call, T.na_Call_caller, rfl, ?_⟩
    refine ⟨by show 1 ≤ sizeLine; decide, fun m hm => ⟨by show 3 ≤ sizeLine; decide, fun u hu => ⟨by show 1 ≤ sizeLine; decide, fun l hl => ?_⟩⟩⟩
    refine PPost.call (dc := dc) (r' := { r with st := .ringing }) N1 hx hnd ⟨((same_new hm).trans (same_new hu)).trans (same_new hl), l, _, rfl, upd_free (upd_free hl), upd_same, ?_⟩ k1
    exact .cons (.tup (upd_old upd_same hl) (.cons (.str _) (.cons (.int _) (.cons (.tup (upd_old (upd_old upd_same hu) hl) (.cons (.str _) .nil)) .nil)))) .nil
def spConnect (K : PySem.W.Frag) : Sp := sp2 fun a b H Q => ∃ (L : Lb) (sw ho : Addr) (A : PA) (ac : List (Addr × CallR)) (al : List (Addr × LineR)) (p : Int), a = .ref sw ∧ b = .int p ∧ PEv K L H sw ho A ac al ∧ PPost K L H sw ho (mConnect ⟨ac.map (·.2), al.map (·.2)⟩ p) Q
theorem ok_Switch_connect (T : Hd K mg) : OkD P w K mg base d_Switch_connect 3 P_Switch_connect (spConnect K) := by
  obtain ⟨fd, F⟩ := T.says.def_ 19 (d := d_Switch_connect) rfl
  obtain ⟨_, F_Switch_called_in, b_Switch_called_in, G_Switch_called_in⟩ := ok_Switch_called_in (P := P) (w := w) (base := base) T
  refine ⟨fd, F, F.bindsN (ps := P_Switch_connect) (fun _ _ _ _ _ _ us hl => match us, hl with | [_, _], _ => rfl), F.ok sc_Switch_connect (fun vs H Q E h => sp2_len h) (fun cdv A outer s H vs Q E hr h => ?_)⟩
  have hu := hu_of hr
  obtain ⟨a, b, rfl, L, sw, ho, B, ac, al, p, rfl, rfl, ⟨N, hnd⟩, k⟩ := h
  refine ⟨_, PSs.nox (pss_cons (ps_set (i := 2) sc_Switch_connect.nd rfl (Or.inl rfl) (pe_meth (pv 0) T.cl_Switch T.me_Switch_called_in G_Switch_called_in (hr.mono (by decide)) b_Switch_called_in .nil pass0 (pa_cons (pv 1) (pa_cons (pe_tup (pa_cons pe_str (pa_cons pe_str pa_nil))) pa_nil)))) (pss_cons (ps_if (pt_cmpR op_isN (pv 2) pe_non (nomark _)) (pss_one (ps_ret (pe_lst pa_nil))) pss_nil) (pss_cons (ps_fld (pv 2) pe_str rfl) (pss_one (ps_ret (pe_lst (pa_cons (pe_tup (pa_cons pe_str (pa_cons (pv 1) (pa_cons (pe_tup (pa_cons pe_str pa_nil)) pa_nil)))) (pa_cons (pe_tup (pa_cons pe_str (pa_cons (pe_fld (pv 2) rfl) (pa_cons (pe_tup (pa_cons pe_str pa_nil)) pa_nil)))) pa_nil)))))))), ?_⟩
  refine ⟨_, rfl, sw, _, _, rfl, N.sw.1, rfl, _, rfl, by show 2 ≤ sizeLine; decide, fun t ht => ⟨_, _, _, rfl, L, sw, ho, B, ac, al, p, t, _, fun r => decide (r.st = .offered) || decide (r.st = .ringing), rfl, rfl, rfl, N.same (same_new ht), upd_same, rfl, fun r => in2 r.st .offered .ringing, ?_⟩⟩
  have k1 := k.ext (same_new (o := .tup [.str "offered", .str "ringing"]) ht)
  have N1 := N.same (same_new (o := .tup [.str "offered", .str "ringing"]) ht)
  clear k
  cases e : calledA ac p (fun r => decide (r.st = .offered) || decide (r.st = .ringing)) with
  | none =>
    have em : mConnect ⟨ac.map (·.2), al.map (·.2)⟩ p = ([], ⟨ac.map (·.2), al.map (·.2)⟩) := by
      unfold mConnect
      rcases calledA_none e with q | ⟨r, q, hq⟩
      · simp only [q]
      · simp only [q]
        rw [if_neg (fun z => hq ⟨z.1, by simpa using z.2⟩)]
    rw [em] at k1
    refine ⟨_, rfl, rfl, _, rfl, iteT ⟨Nat.zero_le _, fun l hl => ?_⟩⟩
    exact PPost.end_ N1 (new_nil hl) k1
  | some x =>
    obtain ⟨hx, q, h1, h2⟩ := calledA_some e
    have h2 : x.2.st = .offered ∨ x.2.st = .ringing := by simpa using h2
    obtain ⟨cA, r⟩ := x
    have em : mConnect ⟨ac.map (·.2), al.map (·.2)⟩ p = ([tellD p (.tuple [.str "connect done"]), tellD r.caller (.tuple [.str "connect"])], ⟨updC (ac.map (·.2)) r.caller { r with st := .answered }, al.map (·.2)⟩) := by
      unfold mConnect
      simp only [q]
      rw [if_pos ⟨h1, h2⟩]
    rw [em] at k1
    obtain ⟨dc, hc⟩ := N1.calls _ hx
    refine ⟨_, rfl, rfl, _, rfl, iteF ?_⟩
    refine ⟨_, rfl, _, _, _, _, rfl, hc.1, T.cl_Call, T.na_Call_stage, (by show 6 < 1000; decide), ?_⟩
    refine ⟨_, rfl, by show 1 ≤ sizeLine; decide, fun m hm => ⟨by show 3 ≤ sizeLine; decide, fun u hu => ⟨_, rfl, _, _, _, _, _, rfl, upd_old (upd_old upd_same hm) hu, T.cl_Call, T.na_Call_caller, rfl, by show 1 ≤ sizeLine; decide, fun m2 hm2 => ⟨by show 3 ≤ sizeLine; decide, fun u2 hu2 => ⟨by show 2 ≤ sizeLine; decide, fun l hl => ?_⟩⟩⟩⟩⟩
    refine PPost.call (dc := dc) (r' := { r with st := .answered }) N1 hx hnd ⟨((((same_new hm).trans (same_new hu)).trans (same_new hm2)).trans (same_new hu2)).trans (same_new hl), l, _, rfl, upd_free (upd_free (upd_free (upd_free hl))), upd_same, ?_⟩ k1
    refine .cons (.tup (upd_old (upd_old (upd_old upd_same hm2) hu2) hl) (.cons (.str _) (.cons (.int _) (.cons (.tup (upd_old (upd_old (upd_old (upd_old upd_same hu) hm2) hu2) hl) (.cons (.str _) .nil)) .nil)))) (.cons (.tup (upd_old upd_same hl) (.cons (.str _) (.cons (.int _) (.cons (.tup (upd_old (upd_old upd_same hu2) hl) (.cons (.str _) .nil)) .nil)))) .nil)
def spWord (K : PySem.W.Frag) : Sp := sp3 fun a b c H Q => ∃ (L : Lb) (sw ho : Addr) (A : PA) (ac : List (Addr × CallR)) (al : List (Addr × LineR)) (p : Int) (w : PyData), a = .ref sw ∧ b = .int p ∧ TD H c w ∧ PN K L H sw ho A ac al ∧ (∀ x ∈ ac, ∃ g, x.2.called = some g) ∧ PPost K L H sw ho (mWord ⟨ac.map (·.2), al.map (·.2)⟩ p w) Q
theorem otherI_some {r : CallR} (h : ∃ g, r.called = some g) (p : Int) : oI (otherI r p) = .int ((otherI r p).getD 0) := by
  obtain ⟨g, h⟩ := h
  unfold otherI
  split
  · rw [h]; rfl
  · rfl
theorem ok_Switch_word (T : Hd K mg) : OkD P w K mg base d_Switch_word 2 P_Switch_word (spWord K) := by
  obtain ⟨fd, F⟩ := T.says.def_ 21 (d := d_Switch_word) rfl
  obtain ⟨_, F_Switch_find, b_Switch_find, G_Switch_find⟩ := ok_Switch_find (P := P) (w := w) (base := base) T
  obtain ⟨_, F_Call_other, b_Call_other, G_Call_other⟩ := ok_Call_other (P := P) (w := w) (base := base) T
  refine ⟨fd, F, F.bindsN (ps := P_Switch_word) (fun _ _ _ _ _ _ us hl => match us, hl with | [_, _, _], _ => rfl), F.ok sc_Switch_word (fun vs H Q E h => sp3_len h) (fun cdv A outer s H vs Q E hr h => ?_)⟩
  have hu := hu_of hr
  obtain ⟨a, b, c, rfl, L, sw, ho, B, ac, al, p, wd, rfl, rfl, hw, N, hcd, k⟩ := h
  refine ⟨_, PSs.nox (pss_cons (ps_set (i := 3) sc_Switch_word.nd rfl (Or.inl rfl) (pe_meth (pv 0) T.cl_Switch T.me_Switch_find G_Switch_find (hr.mono (by decide)) b_Switch_find .nil pass0 (pa_cons (pv 1) pa_nil))) (pss_cons (ps_if ((pw_or (pt_cmpR op_isN (pv 3) pe_non (nomark _)) (pw_or1 (pt_cmpR op_notIn_seq (pe_fld (pv 3) rfl) (pe_tup (pa_cons pe_str (pa_cons pe_str pa_nil))) rfl)))).pt (pss_one (ps_ret (pe_lst pa_nil))) pss_nil) (pss_one (ps_ret (pe_lst (pa_cons (pe_tup (pa_cons pe_str (pa_cons (pe_meth (pv 3) T.cl_Call T.me_Call_other G_Call_other (hr.mono (by decide)) b_Call_other .nil pass0 (pa_cons (pv 1) pa_nil)) (pa_cons (pe_tup (pa_cons pe_str (pa_cons (pv 2) pa_nil))) pa_nil)))) pa_nil)))))), ?_⟩
  refine ⟨_, rfl, sw, _, _, rfl, N.sw.1, rfl, _, rfl, _, _, rfl, L, sw, ho, B, ac, al, p, rfl, rfl, N, ?_⟩
  cases e : findA ac p with
  | none =>
    have em : mWord ⟨ac.map (·.2), al.map (·.2)⟩ p wd = ([], ⟨ac.map (·.2), al.map (·.2)⟩) := by
      unfold mWord
      simp only [← findA_snd, e, Option.map_none]
    rw [em] at k
    refine ⟨_, rfl, rfl, _, rfl, iteT (iteT ⟨Nat.zero_le _, fun l hl => ?_⟩)⟩
    exact PPost.end_ N (new_nil hl) k
  | some x =>
    have hx := findA_mem e
    obtain ⟨dc, hc⟩ := N.calls x hx
    refine ⟨_, rfl, rfl, _, rfl, iteF ?_⟩
    refine ⟨_, rfl, _, _, _, _, _, rfl, hc.1, T.cl_Call, T.na_Call_stage, rfl, by show 2 ≤ sizeLine; decide, fun t ht => ⟨_, _, rfl, .inr (SqT.of upd_same), rfl, rfl, _, rfl, ?_⟩⟩
    show (if (!inV (.str x.2.st.s) [.str Stg.answered.s, .str Stg.active.s]) = true then _ else _)
    rw [in2]
    have k1 := k.ext (same_new (o := .tup [.str "answered", .str "active"]) ht)
    have N1 := N.same (same_new (o := .tup [.str "answered", .str "active"]) ht)
    have hw1 := hw.same (same_new (o := .tup [.str "answered", .str "active"]) ht)
    clear k
    cases h1 : (decide (x.2.st = .answered) || decide (x.2.st = .active)) with
    | false =>
      have em : mWord ⟨ac.map (·.2), al.map (·.2)⟩ p wd = ([], ⟨ac.map (·.2), al.map (·.2)⟩) := by
        unfold mWord
        simp only [← findA_snd, e, Option.map_some]
        rw [if_neg (by simpa using h1)]
      rw [em] at k1
      refine iteT ⟨Nat.zero_le _, fun l hl => ?_⟩
      exact PPost.end_ N1 (new_nil hl) k1
    | true =>
      have em : mWord ⟨ac.map (·.2), al.map (·.2)⟩ p wd = ([tellD ((otherI x.2 p).getD 0) (.tuple [.str "word", wd])], ⟨ac.map (·.2), al.map (·.2)⟩) := by
        unfold mWord
        simp only [← findA_snd, e, Option.map_some]
        rw [if_pos (by simpa using h1)]
      rw [em] at k1
      obtain ⟨dc1, hc1⟩ := N1.calls x hx
      refine iteF ⟨_, rfl, x.1, _, _, rfl, hc1.1, rfl, _, rfl, _, _, rfl, x.1, dc1, x.2, p, rfl, rfl, hc1.1, ?_⟩
      rw [otherI_some (hcd x hx)]
      refine ⟨_, rfl, by show 2 ≤ sizeLine; decide, fun m hm => ⟨by show 3 ≤ sizeLine; decide, fun u hu => ⟨by show 1 ≤ sizeLine; decide, fun l hl => ?_⟩⟩⟩
      refine PPost.end_ N1 ⟨((same_new hm).trans (same_new hu)).trans (same_new hl), l, _, rfl, upd_free (upd_free hl), upd_same, ?_⟩ k1
      refine .cons (.tup (upd_old upd_same hl) (.cons (.str _) (.cons (.int _) (.cons (.tup (upd_old (upd_old upd_same hu) hl) (.cons (.str _) (.cons (hw1.same (((same_new hm).trans (same_new hu)).trans (same_new hl))) .nil))) .nil)))) .nil
end
end Mob

set_option Elab.async false
set_option linter.all false
set_option maxRecDepth 100000
set_option maxHeartbeats 4000000
namespace Mob
open PySem PySem.Spec PyProof.Rows L2
/-! ### the net on the heap: its changes -/
section
variable {K : PySem.W.Frag} {S : Nat → Prop} {L L' : Lb} {H H1 H' : Hp} {sw ho : Addr} {A : PA} {ac : List (Addr × CallR)} {al : List (Addr × LineR)}
/-- a new call -/
theorem PN.add (N : PN K L H sw ho A ac al) (s : Same H H1) {x dx : Addr} {r : CallR} (hx : H x = none) (hx' : H1 x = some (.ins (cCl K) dx (callFs r))) :
    PN K (setL L x 9) (upd H1 A.rl (.lst ((ac.map fun x => V.ref x.1) ++ [.ref x]))) sw ho A (ac ++ [(x, r)]) al := by
  have lab : ∀ {b o}, H b = some o → setL L x 9 b = L b := fun {b o} e => setL_ne (ne_of_none e hx)
  have mv : ∀ {k b o}, At L H k b o → k ≠ 6 → At (setL L x 9) (upd H1 A.rl (.lst ((ac.map fun x => V.ref x.1) ++ [.ref x]))) k b o := fun {k b o} e n =>
    ⟨by rw [upd_ne (e.ne N.rl.2 n)]; exact s _ _ e.1, by rw [lab e.1]; exact e.2⟩
  have nxr : x ≠ A.rl := (ne_of_none N.rl.1 hx).symm
  refine ⟨mv N.sw (by decide), ⟨by rw [List.map_append]; exact upd_same, by rw [lab N.rl.1]; exact N.rl.2⟩, mv N.bk (by decide), mv N.bl (by decide), fun y hy => ?_, fun y hy => ?_, ?_⟩
  · rcases List.mem_append.mp hy with hy | hy
    · exact (N.calls y hy).imp fun _ h => mv h (by decide)
    · rw [List.mem_singleton.mp hy]
      exact ⟨dx, by rw [upd_ne nxr]; exact hx', setL_same⟩
  · have h := N.lines y hy
    exact upd_off (s _ _ h) (ne_of h N.rl.1 (by intro z; cases z))
  · rw [List.map_append, List.nodup_append]
    refine ⟨N.nd, by simp, fun a ha b hb => ?_⟩
    obtain ⟨y, hy, rfl⟩ := List.mem_map.mp ha
    obtain ⟨dc, h⟩ := N.calls y hy
    rw [List.mem_singleton.mp hb]
    exact ne_of_none h.1 hx
theorem Step.addCall (N : PN K L H sw ho A ac al) (s : Same H H1) {x : Addr} (hx : H x = none) {o : HO} (hS : S 6) : Step S L H (setL L x 9) (upd H1 A.rl o) :=
  ((Step.relab hx).trans (Step.same s)).trans (Step.write (s _ _ N.rl.1) (by intro _ z; cases z) (by rw [setL_ne (ne_of_none N.rl.1 hx), N.rl.2]; exact hS))
/-- a new line -/
theorem PN.addLine (N : PN K L H sw ho A ac al) {t : Addr} {l : LineR} (ht : H t = none) : PN K L (upd (upd H t (.tup (lineV l))) A.bl (.lst ((al.map fun x => V.ref x.1) ++ [.ref t]))) sw ho A ac (al ++ [(t, l)]) := by
  have mv : ∀ {k b o}, At L H k b o → k ≠ 8 → At L (upd (upd H t (.tup (lineV l))) A.bl (.lst ((al.map fun x => V.ref x.1) ++ [.ref t]))) k b o := fun {k b o} e n =>
    ⟨by rw [upd_ne (e.ne N.bl.2 n)]; exact upd_old e.1 ht, e.2⟩
  have ntb : t ≠ A.bl := (ne_of_none N.bl.1 ht).symm
  refine ⟨mv N.sw (by decide), mv N.rl (by decide), mv N.bk (by decide), ⟨by rw [List.map_append]; exact upd_same, N.bl.2⟩, fun y hy => (N.calls y hy).imp fun _ h => mv h (by decide), fun y hy => ?_, N.nd⟩
  rcases List.mem_append.mp hy with hy | hy
  · have h := N.lines y hy
    exact upd_off (upd_old h ht) (ne_of h N.bl.1 (by intro z; cases z))
  · rw [List.mem_singleton.mp hy]
    exact upd_off upd_same ntb
theorem Step.book (N : PN K L H sw ho A ac al) {t : Addr} {o u : HO} (ht : H t = none) (hS : S 8) : Step S L H L (upd (upd H t o) A.bl u) :=
  (Step.alloc ht).trans (Step.write (upd_old N.bl.1 ht) (by intro _ z; cases z) (by rw [N.bl.2]; exact hS))
/-- a line ends -/
theorem PN.endLine (N : PN K L H sw ho A ac al) {t tp : Addr} {i : Nat} {l l' : LineR} (ht : H t = none) (hi : al[i]? = some (tp, l)) :
    PN K L (upd (upd H t (.tup (lineV l'))) A.bl (.lst ((al.map fun x => V.ref x.1).set i (.ref t)))) sw ho A ac (al.set i (t, l')) := by
  have mv : ∀ {k b o}, At L H k b o → k ≠ 8 → At L (upd (upd H t (.tup (lineV l'))) A.bl (.lst ((al.map fun x => V.ref x.1).set i (.ref t)))) k b o := fun {k b o} e n =>
    ⟨by rw [upd_ne (e.ne N.bl.2 n)]; exact upd_old e.1 ht, e.2⟩
  have ntb : t ≠ A.bl := (ne_of_none N.bl.1 ht).symm
  refine ⟨mv N.sw (by decide), mv N.rl (by decide), mv N.bk (by decide), ⟨by rw [List.map_set]; exact upd_same, N.bl.2⟩, fun y hy => (N.calls y hy).imp fun _ h => mv h (by decide), fun y hy => ?_, N.nd⟩
  rcases mem_set_at hi hy with rfl | ⟨j, _, hj⟩
  · exact upd_off upd_same ntb
  · have h := N.lines y (List.mem_of_getElem? hj)
    exact upd_off (upd_old h ht) (ne_of h N.bl.1 (by intro z; cases z))
/-- the calls in a new list -/
theorem PN.setRows (N : PN K L H sw ho A ac al) (s : Same H H1) {D : Addr} {ac' : List (Addr × CallR)} (hD : H D = none) (hD' : H1 D = some (.lst (ac'.map fun x => V.ref x.1))) (sub : ac'.Sublist ac) :
    PN K (setL L D 6) (upd H1 sw (.ins (cSw K) A.dsw (swFs ho A.bk D))) sw ho { A with rl := D } ac' al := by
  have lab : ∀ {b o}, H b = some o → setL L D 6 b = L b := fun {b o} e => setL_ne (ne_of_none e hD)
  have mv : ∀ {k b o}, At L H k b o → k ≠ 5 → At (setL L D 6) (upd H1 sw (.ins (cSw K) A.dsw (swFs ho A.bk D))) k b o := fun {k b o} e n =>
    ⟨by rw [upd_ne (e.ne N.sw.2 n)]; exact s _ _ e.1, by rw [lab e.1]; exact e.2⟩
  have nDs : D ≠ sw := (ne_of_none N.sw.1 hD).symm
  refine ⟨⟨upd_same, by rw [lab N.sw.1]; exact N.sw.2⟩, ⟨upd_off hD' nDs, setL_same⟩, mv N.bk (by decide), mv N.bl (by decide), fun y hy => (N.calls y (sub.subset hy)).imp fun _ h => mv h (by decide), fun y hy => ?_, ?_⟩
  · have h := N.lines y hy
    exact upd_off (s _ _ h) (ne_of h N.sw.1 (by intro z; cases z))
  · exact N.nd.sublist (sub.map _)
theorem Step.rows (N : PN K L H sw ho A ac al) (s : Same H H1) {D : Addr} (hD : H D = none) {o : HO} (hS : S 5) : Step S L H (setL L D 6) (upd H1 sw o) :=
  ((Step.relab hD).trans (Step.same s)).trans (Step.write (s _ _ N.sw.1) (by intro _ z; cases z) (by rw [setL_ne (ne_of_none N.sw.1 hD), N.sw.2]; exact hS))
end
theorem setA_twice {β : Type} {ac : List (Addr × β)} {c : Addr} {r r' : β} : setA (setA ac c r) c r' = setA ac c r' := by
  unfold setA
  rw [List.map_map]
  refine List.map_congr_left fun x _ => ?_
  show (if (if x.1 = c then (c, r) else x).1 = c then (c, r') else (if x.1 = c then (c, r) else x)) = _
  by_cases h : x.1 = c
  · rw [if_pos h, if_pos rfl, if_pos h]
  · rw [if_neg h, if_neg h]
theorem mem_setA_same {β : Type} {ac : List (Addr × β)} {c : Addr} {r r' : β} (h : (c, r) ∈ ac) : (c, r') ∈ setA ac c r' := List.mem_map.mpr ⟨_, h, if_pos rfl⟩
theorem mem_setA_other {β : Type} {ac : List (Addr × β)} {c : Addr} {r' : β} {y : Addr × β} (h : y ∈ ac) (n : y.1 ≠ c) : y ∈ setA ac c r' := List.mem_map.mpr ⟨_, h, if_neg n⟩
theorem endL_set {ls : List LineR} {i : Nat} {l : LineR} {t c : Int} (h : ls[i]? = some l) : endL ls i t c = ls.set i { l with fin := some (t, c) } := by
  refine List.ext_getElem? fun j => ?_
  unfold endL
  rw [List.getElem?_modify, List.getElem?_set]
  by_cases e : i = j
  · subst e
    rw [h, if_pos rfl, if_pos (List.getElem?_eq_some_iff.mp h).1]
    simp
  · rw [if_neg e]
    simp [e]
theorem sidesV_ints {cs : List CallR} (h : ∀ r ∈ cs, ∃ g, r.called = some g) : sidesV cs = (sidesI cs).map V.int := by
  unfold sidesV sidesI
  rw [List.map_flatMap]
  have : ∀ l : List CallR, (∀ r ∈ l, ∃ g, r.called = some g) → (l.flatMap fun r => [V.int r.caller, oI r.called]) = l.flatMap fun r => (r.caller :: r.called.toList).map V.int := by
    intro l
    induction l with
    | nil => intro _; rfl
    | cons r l ih =>
      intro h
      obtain ⟨g, hg⟩ := h r List.mem_cons_self
      rw [List.flatMap_cons, List.flatMap_cons, ih fun x hx => h x (List.mem_cons_of_mem _ hx), hg]
      rfl
  exact this cs h
end Mob

set_option Elab.async false
set_option linter.all false
set_option maxRecDepth 100000
set_option maxHeartbeats 4000000
namespace Mob
open PySem PySem.Spec PyProof.Rows L2
section
variable {P : Program} {w : World} {K : PySem.W.Frag} {mg : Str → Option Value} {base : Heap}
/-! ### Switch: made; start, connected -/
def spSwInit (K : PySem.W.Frag) : Sp := sp2 fun a b H Q => ∃ (p dx ho : Addr), a = .ref p ∧ b = .ref ho ∧ H p = some (.ins (cSw K) dx []) ∧
  ∀ (H' : Hp) (rl bk dbk bl : Addr), H rl = none → H bk = none → H bl = none → rl ≠ bk → rl ≠ bl → bk ≠ bl → H' p = some (.ins (cSw K) dx (swFs ho bk rl)) → H' rl = some (.lst []) → H' bk = some (.ins (cBk K) dbk (bkFs bl)) → H' bl = some (.lst []) → (∀ b o, H b = some o → b ≠ p → H' b = some o) → Q .non H'
theorem ok_Switch_init (T : Hd K mg) : OkD P w K mg base d_Switch_init 3 P_Switch_init (spSwInit K) := by
  obtain ⟨fd, F⟩ := T.says.def_ 9 (d := d_Switch_init) rfl
  obtain ⟨_, F_Book_init, b_Book_init, G_Book_init⟩ := ok_Book_init (P := P) (w := w) (base := base) T
  refine ⟨fd, F, F.bindsN (ps := P_Switch_init) (fun _ _ _ _ _ _ us hl => match us, hl with | [_, _], _ => rfl), F.ok sc_Switch_init (fun vs H Q E h => sp2_len h) (fun cdv A outer s H vs Q E hr h => ?_)⟩
  have hu := hu_of hr
  obtain ⟨a, b, rfl, p, dx, ho, rfl, rfl, hp, k⟩ := h
  refine ⟨_, PSs.nox (pss_cons (ps_fld (pv 0) (pv 1) rfl) (pss_cons (ps_fld (pv 0) (pe_make0 T.mk_Book G_Book_init (hr.mono (by decide)) rfl T.gl_Book b_Book_init .nil pass0) rfl) (pss_one (ps_fld (pv 0) (pe_lst pa_nil) rfl)))), ?_⟩
  refine ⟨_, rfl, _, rfl, p, cSw K, dx, [], rfl, hp, T.cl_Switch, T.na_Switch_home, (by show 0 < 1000; decide), ?_⟩
  intro bk dbk nbk ndb nex
  refine ⟨_, rfl, bk, dbk, rfl, upd_same, fun H2 bl hbl hbk' hbl' keep => ⟨rfl, ?_⟩⟩
  have s2 := Same.made nbk ndb keep
  have hp1 : upd H p (.ins (cSw K) dx (putF "home" (.ref ho) [])) p = some (.ins (cSw K) dx (putF "home" (.ref ho) [])) := upd_same
  have npbk : p ≠ bk := ne_of_none hp1 nbk
  have hp2 := s2 _ _ hp1
  refine ⟨_, rfl, p, cSw K, dx, _, rfl, hp2, T.cl_Switch, T.na_Switch_book, (by show 1 < 1000; decide), ?_⟩
  refine ⟨Nat.zero_le _, fun rl hrl => ?_⟩
  have nprl : p ≠ rl := ne_of_none upd_same hrl
  have hrl2 : H2 rl = none := by rw [upd_ne nprl.symm] at hrl; exact hrl
  refine ⟨_, rfl, p, cSw K, dx, _, rfl, upd_old upd_same hrl, T.cl_Switch, T.na_Switch_rows, (by show 2 < 1000; decide), ?_⟩
  have hbl0 : H bl = none := upd_free (upd_free (upd_free hbl))
  have npbl : p ≠ bl := ne_of_none hp hbl0
  have nbkbl : bk ≠ bl := ne_of hbk' hbl' (by intro z; cases z)
  have nrlbk : rl ≠ bk := fun z => by rw [z, hbk'] at hrl2; cases hrl2
  have nrlbl : rl ≠ bl := fun z => by rw [z, hbl'] at hrl2; cases hrl2
  refine k _ rl bk dbk bl (upd_free (s2.free hrl2)) (upd_free nbk) hbl0 nrlbk nrlbl nbkbl upd_same ?_ ?_ ?_ fun b o e nb => ?_
  · exact upd_off upd_same nprl.symm
  · exact upd_off (upd_old (upd_off hbk' npbk.symm) hrl) npbk.symm
  · exact upd_off (upd_old (upd_off hbl' npbl.symm) hrl) npbl.symm
  · refine upd_off (upd_old (upd_off (s2 _ _ (upd_off e nb)) nb) hrl) nb
def spStart (K : PySem.W.Frag) : Sp := sp5 fun a b c d e H Q => ∃ (L : Lb) (sw ho : Addr) (A : PA) (ac : List (Addr × CallR)) (al : List (Addr × LineR)) (Ah : HA) (ps : List PRec) (E : Env0) (p : Int) (num : Str) (lk : Addr) (linked : List Int),
  a = .ref sw ∧ b = .int p ∧ c = .str num ∧ d = .ref lk ∧ PN K L H sw ho A ac al ∧ HM K L H ho Ah ps ∧ Says ps E ∧ (∀ x ∈ ac, ∃ g, x.2.called = some g) ∧ ac.length ≤ 1000 ∧ SqL K H lk (linked.map V.int) ∧ linked.length ≤ 1000 ∧
  PPost K L H sw ho (mStart E ⟨ac.map (·.2), al.map (·.2)⟩ p num linked) Q
theorem refO_isSome (o : Option (Addr × CallR)) : (!decide (refO o = V.non)) = o.isSome := by cases o <;> simp [refO]
theorem ok_Switch_start (T : Hd K mg) : OkD P w K mg base d_Switch_start 5 P_Switch_start (spStart K) := by
  obtain ⟨fd, F⟩ := T.says.def_ 16 (d := d_Switch_start) rfl
  obtain ⟨_, F_Switch_find, b_Switch_find, G_Switch_find⟩ := ok_Switch_find (P := P) (w := w) (base := base) T
  obtain ⟨_, F_refuse, b_refuse, G_refuse⟩ := ok_refuse (P := P) (w := w) (base := base) T
  obtain ⟨_, F_find_goal, b_find_goal, G_find_goal⟩ := ok_find_goal (P := P) (w := w) (base := base) T
  obtain ⟨_, F_Switch_sides, b_Switch_sides, G_Switch_sides⟩ := ok_Switch_sides (P := P) (w := w) (base := base) T
  obtain ⟨_, F_Call_init, b_Call_init, G_Call_init⟩ := ok_Call_init (P := P) (w := w) (base := base) T
  refine ⟨fd, F, F.bindsN (ps := P_Switch_start) (fun _ _ _ _ _ _ us hl => match us, hl with | [_, _, _, _, _], _ => rfl), F.ok sc_Switch_start (fun vs H Q E h => sp5_len h) (fun cdv A outer s H vs Q E hr h => ?_)⟩
  have hu := hu_of hr
  obtain ⟨a, b, c, d, e, rfl, L, sw, ho, B, ac, al, Ah, ps, Ev, p, num, lk, linked, rfl, rfl, rfl, rfl, N, M, Sy, hcd, hlen, hlk, hll, k⟩ := h
  refine ⟨_, PSs.nox (pss_cons (ps_if (pt_cmpR op_notN (pe_meth (pv 0) T.cl_Switch T.me_Switch_find G_Switch_find (hr.mono (by decide)) b_Switch_find .nil pass0 (pa_cons (pv 1) pa_nil)) pe_non (nomark _)) (pss_one (ps_ret (pe_call G_refuse (hr.mono (by decide)) (by rfl) T.gl_refuse F_refuse.kp b_refuse .nil pass0 (pa_cons (pv 1) (pa_cons pe_int pa_nil))))) pss_nil) (pss_cons (ps_asg (pe_call G_find_goal (hr.mono (by decide)) (by rfl) T.gl_find_goal F_find_goal.kp b_find_goal .nil pass0 (pa_cons (pe_fld (pv 0) rfl) (pa_cons (pv 2) (pa_cons (pv 1) (pa_cons (pe_op op_cat (pe_meth0 (pv 0) T.cl_Switch T.me_Switch_sides G_Switch_sides (hr.mono (by decide)) b_Switch_sides .nil pass0) (pe_callTy call_list_of (by rfl) T.fr_list (by decide +kernel) (pa_cons (pv 3) pa_nil))) (pa_cons pe_int pa_nil)))))) (pg_tup rfl (pgs_cons (pg_name (i := 5) sc_Switch_start.nd rfl (Or.inl rfl)) (pgs_cons (pg_name (i := 6) sc_Switch_start.nd rfl (Or.inl rfl)) (pgs_cons (pg_name (i := 7) sc_Switch_start.nd rfl (Or.inl rfl)) pgs_nil))))) (pss_cons (ps_if (pt_cmpR op_isN (pv 5) pe_non (nomark _)) (pss_one (ps_ret (pe_call G_refuse (hr.mono (by decide)) (by rfl) T.gl_refuse F_refuse.kp b_refuse .nil pass0 (pa_cons (pv 1) (pa_cons (pv 6) pa_nil))))) pss_nil) (pss_cons (ps_expr (pe_bm PySem.F.plainAttrs_list PySem.F.slot_list_append PySem.F.type_list_append mt_append (pe_fld (pv 0) rfl) (pa_cons (pe_make T.mk_Call G_Call_init (hr.mono (by decide)) rfl T.gl_Call b_Call_init .nil pass0 (pa_cons (pv 1) (pa_cons (pv 5) (pa_cons (pv 7) pa_nil)))) pa_nil))) (pss_one (ps_ret (pe_lst (pa_cons (pe_tup (pa_cons pe_str (pa_cons (pv 1) (pa_cons (pe_tup (pa_cons pe_str pa_nil)) pa_nil)))) (pa_cons (pe_tup (pa_cons pe_str (pa_cons (pv 5) pa_nil))) pa_nil))))))))), ?_⟩
  refine ⟨_, rfl, sw, _, _, rfl, N.sw.1, rfl, _, rfl, _, _, rfl, L, sw, ho, B, ac, al, p, rfl, rfl, N, rfl, _, rfl, ?_⟩
  show (if (!decide (refO (findA ac p) = V.non)) = true then _ else _)
  rw [refO_isSome]
  cases e : findA ac p with
  | some x =>
    have em : mStart Ev ⟨ac.map (·.2), al.map (·.2)⟩ p num linked = (refuseD p 17, ⟨ac.map (·.2), al.map (·.2)⟩) := by
      unfold mStart
      rw [if_pos (by rw [← findA_snd, e]; rfl)]
    rw [em] at k
    refine iteT ⟨_, rfl, _, _, rfl, p, 17, rfl, rfl, fun v H' n => ?_⟩
    exact PPost.end_ N n k
  | none =>
    refine iteF ?_
    refine ⟨_, rfl, _, _, _, _, _, rfl, N.sw.1, T.cl_Switch, T.na_Switch_home, rfl, _, rfl, _, rfl, _, rfl, sw, _, _, rfl, N.sw.1, rfl, _, rfl, L, sw, ho, B, ac, al, rfl, N, hlen, fun l1 H1 s1 hl1 hl1' => ?_⟩
    refine ⟨_, rfl, lk, _, rfl, .inl (s1.seq hlk), fun l2 hl2 => ?_⟩
    have e1 := upd_old (x := .lst (linked.map V.int)) hl1' hl2
    refine ⟨l1, l2, _, _, rfl, rfl, e1, upd_same, ?_, fun l3 hl3 => ?_⟩
    · rw [sidesV_len, List.length_map, List.length_map]
      exact Nat.le_trans (show 2 * ac.length + linked.length ≤ 3000 by omega) (by decide)
    have es : sidesV (ac.map (·.2)) = (sidesI (ac.map (·.2))).map V.int := sidesV_ints fun r hr => by
      obtain ⟨x, hx, rfl⟩ := List.mem_map.mp hr
      exact hcd x hx
    have s3 : Same H (upd (upd H1 l2 (.lst (linked.map V.int))) l3 (.lst (sidesV (ac.map (·.2)) ++ linked.map V.int))) := (s1.trans (same_new hl2)).trans (same_new hl3)
    have N3 := N.same s3
    have M3 := M.same s3
    refine ⟨_, _, _, _, _, rfl, L, ho, Ah, ps, Ev, num, p, l3, sidesI (ac.map (·.2)) ++ linked, 0, rfl, rfl, rfl, rfl, rfl, M3, Sy, ?_, by decide, by decide, fun t H4 s4 ht => ?_⟩
    · refine SqL.of ?_
      rw [List.map_append, ← es]
      exact upd_same
    have N4 := N3.same s4
    have s04 := s3.trans s4
    have k4 := k.ext s04
    refine ⟨t, _, rfl, SqT.of ht, rfl, _, _, rfl, _, _, rfl, _, _, rfl, rfl, ?_⟩
    have ef : (findC (ac.map (·.2)) p).isSome = false := by rw [← findA_snd, e]; rfl
    cases eg : goalN Ev.nums Ev.fs p (sidesI (ac.map (·.2)) ++ linked) 4 num 0 with
    | mk g r =>
      obtain ⟨c0, h0⟩ := r
      refine ⟨_, rfl, rfl, _, rfl, ?_⟩
      show (if decide (oI g = V.non) = true then _ else _)
      rw [oI_non]
      cases g with
      | none =>
        have em : mStart Ev ⟨ac.map (·.2), al.map (·.2)⟩ p num linked = (refuseD p c0, ⟨ac.map (·.2), al.map (·.2)⟩) := by
          unfold mStart
          simp only [eg, ef]
          rw [if_neg Bool.false_ne_true]
        rw [em] at k4
        refine iteT ⟨_, rfl, _, rfl, _, _, rfl, p, c0, rfl, rfl, fun v H' n => ?_⟩
        exact PPost.end_ N4 n k4
      | some g =>
        have em : mStart Ev ⟨ac.map (·.2), al.map (·.2)⟩ p num linked = ([tellD p (.tuple [.str "proceeding"]), pageD g], ⟨ac.map (·.2) ++ [⟨p, some g, .looking, h0, 0, none⟩], al.map (·.2)⟩) := by
          unfold mStart
          simp only [eg, ef]
          rw [if_neg Bool.false_ne_true]
        rw [em] at k4
        refine iteF ⟨_, rfl, _, _, _, _, _, rfl, N4.sw.1, T.cl_Switch, T.na_Switch_rows, rfl, .inl ⟨rfl, _, SqL.of N4.rl.1⟩, _, rfl, _, rfl, _, rfl, ?_⟩
        intro x dx nx ndx nex
        refine ⟨_, _, _, _, rfl, x, dx, p, g, h0, rfl, rfl, rfl, rfl, upd_same, fun H5 hx5 keep => ⟨rfl, ?_⟩⟩
        have s5 := Same.made nx ndx keep
        refine ⟨B.rl, _, _, rfl, rfl, s5 _ _ N4.rl.1, by rw [List.length_map]; exact small1000 hlen, ?_⟩
        have N5 := N4.add s5 nx hx5
        have st5 := Step.addCall (S := S59) (o := .lst ((ac.map fun x => V.ref x.1) ++ [.ref x])) N4 s5 nx ⟨by decide, by decide⟩
        have k5 := k4.after st5
        refine ⟨_, rfl, by show 1 ≤ sizeLine; decide, fun m hm => ⟨by show 3 ≤ sizeLine; decide, fun u hu => ⟨_, rfl, by show 2 ≤ sizeLine; decide, fun u2 hu2 => ⟨by show 2 ≤ sizeLine; decide, fun l hl => ?_⟩⟩⟩⟩
        refine PPost.end_ N5 ⟨(((same_new hm).trans (same_new hu)).trans (same_new hu2)).trans (same_new hl), l, _, rfl, upd_free (upd_free (upd_free hl)), upd_same, ?_⟩ (by rw [List.map_append]; exact k5)
        exact .cons (.tup (upd_old (upd_old upd_same hu2) hl) (.cons (.str _) (.cons (.int _) (.cons (.tup (upd_old (upd_old (upd_old upd_same hu) hu2) hl) (.cons (.str _) .nil)) .nil)))) (.cons (.tup (upd_old upd_same hl) (.cons (.str _) (.cons (.int _) .nil))) .nil)
def spConnected (K : PySem.W.Frag) : Sp := sp3 fun a b c H Q => ∃ (L : Lb) (sw ho : Addr) (A : PA) (ac : List (Addr × CallR)) (al : List (Addr × LineR)) (p t : Int), a = .ref sw ∧ b = .int p ∧ c = .int t ∧ PEv K L H sw ho A ac al ∧ (∀ x ∈ ac, ∃ g, x.2.called = some g) ∧ al.length ≤ 1000 ∧
  PPost K L H sw ho (mConnected ⟨ac.map (·.2), al.map (·.2)⟩ p t) Q
theorem ok_Switch_connected (T : Hd K mg) : OkD P w K mg base d_Switch_connected 2 P_Switch_connected (spConnected K) := by
  obtain ⟨fd, F⟩ := T.says.def_ 20 (d := d_Switch_connected) rfl
  obtain ⟨_, F_Switch_find, b_Switch_find, G_Switch_find⟩ := ok_Switch_find (P := P) (w := w) (base := base) T
  obtain ⟨_, F_Book_begin, b_Book_begin, G_Book_begin⟩ := ok_Book_begin (P := P) (w := w) (base := base) T
  refine ⟨fd, F, F.bindsN (ps := P_Switch_connected) (fun _ _ _ _ _ _ us hl => match us, hl with | [_, _, _], _ => rfl), F.ok sc_Switch_connected (fun vs H Q E h => sp3_len h) (fun cdv A outer s H vs Q E hr h => ?_)⟩
  have hu := hu_of hr
  obtain ⟨a, b, c, rfl, L, sw, ho, B, ac, al, p, tk, rfl, rfl, rfl, ⟨N, hnd⟩, hcd, hal, k⟩ := h
  refine ⟨_, PSs.nox (pss_cons (ps_set (i := 3) sc_Switch_connected.nd rfl (Or.inl rfl) (pe_meth (pv 0) T.cl_Switch T.me_Switch_find G_Switch_find (hr.mono (by decide)) b_Switch_find .nil pass0 (pa_cons (pv 1) pa_nil))) (pss_cons (ps_if ((pw_and (pt_cmpR op_notN (pv 3) pe_non (nomark _)) (pw_and (pt_cmpR op_eq (pe_fld (pv 3) rfl) (pv 1) (nomark _)) (pw_and1 (pt_cmpR op_eq (pe_fld (pv 3) rfl) pe_str (nomark _)))))).pt (pss_cons (ps_fld (pv 3) pe_str rfl) (pss_one (ps_fld (pv 3) (pe_meth (pe_fld (pv 0) rfl) T.cl_Book T.me_Book_begin G_Book_begin (hr.mono (by decide)) b_Book_begin .nil pass0 (pa_cons (pe_fld (pv 3) rfl) (pa_cons (pe_fld (pv 3) rfl) (pa_cons (pv 2) pa_nil)))) rfl))) pss_nil) (pss_one (ps_ret (pe_lst pa_nil))))), ?_⟩
  refine ⟨_, rfl, sw, _, _, rfl, N.sw.1, rfl, _, rfl, _, _, rfl, L, sw, ho, B, ac, al, p, rfl, rfl, N, ?_⟩
  cases e : findA ac p with
  | none =>
    have em : mConnected ⟨ac.map (·.2), al.map (·.2)⟩ p tk = ([], ⟨ac.map (·.2), al.map (·.2)⟩) := by
      unfold mConnected
      simp only [← findA_snd, e, Option.map_none]
    rw [em] at k
    refine ⟨_, rfl, rfl, _, rfl, ?_⟩
    refine iteF (iteF ⟨Nat.zero_le _, fun l hl => ?_⟩)
    exact PPost.end_ N (new_nil hl) k
  | some x =>
    have hx := findA_mem e
    obtain ⟨dc, hc⟩ := N.calls x hx
    obtain ⟨g, hg⟩ := hcd x hx
    refine ⟨_, rfl, rfl, _, rfl, ?_⟩
    refine iteT ⟨_, rfl, _, _, _, _, _, rfl, hc.1, T.cl_Call, T.na_Call_caller, rfl, _, rfl, rfl, _, rfl, ?_⟩
    rw [decVI]
    have no : ¬ (x.2.caller = p ∧ x.2.st = .answered) → (∀ l, H l = none → Q (.ref l) (upd H l (.lst []))) := fun z l hl => by
      have em : mConnected ⟨ac.map (·.2), al.map (·.2)⟩ p tk = ([], ⟨ac.map (·.2), al.map (·.2)⟩) := by
        unfold mConnected
        simp only [← findA_snd, e, Option.map_some]
        rw [if_neg z]
      rw [em] at k
      exact PPost.end_ N (new_nil hl) k
    cases h1 : decide (x.2.caller = p) with
    | false =>
      refine iteF (iteF ⟨Nat.zero_le _, ?_⟩)
      exact no fun z => of_decide_eq_false h1 z.1
    | true =>
      refine iteT ⟨_, rfl, _, _, _, _, _, rfl, hc.1, T.cl_Call, T.na_Call_stage, rfl, rfl, _, rfl, ?_⟩
      show (if decide (V.str x.2.st.s = V.str Stg.answered.s) = true then _ else _)
      rw [eqStg]
      cases h2 : decide (x.2.st = .answered) with
      | false =>
        refine iteF ⟨Nat.zero_le _, ?_⟩
        exact no fun z => of_decide_eq_false h2 z.2
      | true =>
        obtain ⟨cA, r⟩ := x
        have em : mConnected ⟨ac.map (·.2), al.map (·.2)⟩ p tk = ([], ⟨updC (ac.map (·.2)) r.caller { r with st := .active, line := some al.length }, al.map (·.2) ++ [⟨r.caller, g, tk, none⟩]⟩) := by
          unfold mConnected
          simp only [← findA_snd, e, Option.map_some]
          rw [if_pos ⟨of_decide_eq_true h1, of_decide_eq_true h2⟩, show r.called = some g from hg, List.length_map]
          rfl
        rw [em] at k
        have N1 := N.setCall (dc := dc) (r' := { r with st := .active }) hx
        have st1 := Step.call (S := S59) N (dc := dc) (r' := { r with st := .active }) hx ⟨by decide, by decide⟩
        have hx1 : (cA, { r with st := .active }) ∈ setA ac cA { r with st := .active } := mem_setA_same hx
        refine iteT ⟨_, rfl, _, _, _, _, rfl, hc.1, T.cl_Call, T.na_Call_stage, (by show 6 < 1000; decide), ?_⟩
        have hc1 : (upd H cA (.ins (cCl K) dc (callFs { r with st := .active }))) cA = some (.ins (cCl K) dc (callFs { r with st := .active })) := upd_same
        refine ⟨_, rfl, _, _, _, _, _, rfl, N1.sw.1, T.cl_Switch, T.na_Switch_book, rfl, B.bk, _, _, rfl, N1.bk.1, rfl, _, rfl, _, _, _, _, _, rfl, hc1, T.cl_Call, T.na_Call_caller, rfl, _, rfl, _, _, _, _, _, rfl, hc1, T.cl_Call, T.na_Call_called, rfl, _, rfl, _, _, _, _, rfl, B.bk, B.dbk, B.bl, _, r.caller, g, tk, rfl, rfl, by show oI r.called = _; rw [hg]; rfl, rfl, N1.bk.1, N1.bl.1, by rw [List.length_map]; exact hal, fun t ht => ?_⟩
        have N2 := N1.addLine (t := t) (l := ⟨r.caller, g, tk, none⟩) ht
        have st2 := Step.book (S := S59) N1 (t := t) (o := .tup (lineV ⟨r.caller, g, tk, none⟩)) (u := .lst ((al.map fun x => V.ref x.1) ++ [.ref t])) ht ⟨by decide, by decide⟩
        obtain ⟨dc2, hc2⟩ := N2.calls _ hx1
        refine ⟨_, rfl, _, _, _, _, rfl, hc2.1, T.cl_Call, T.na_Call_line, (by show 6 < 1000; decide), ?_⟩
        have N3 := N2.setCall (dc := dc2) (r' := { r with st := .active, line := some al.length }) hx1
        have st3 := Step.call (S := S59) N2 (dc := dc2) (r' := { r with st := .active, line := some al.length }) hx1 ⟨by decide, by decide⟩
        refine ⟨Nat.zero_le _, fun l hl => ?_⟩
        have eF : putF "line" (V.int (((al.map fun x => V.ref x.1).length : Nat) : Int)) (callFs { r with st := .active }) = callFs { r with st := .active, line := some al.length } := by rw [List.length_map]; rfl
        have k3 := ((k.after st1).after st2).after st3
        rw [setA_twice] at N3
        have e3 : (setA ac cA { r with st := .active, line := some al.length }).map (·.2) = updC (ac.map (·.2)) r.caller { r with st := .active, line := some al.length } := setA_snd hnd N.nd hx _
        refine PPost.end_ N3 (v := .ref l) (ds := []) ?_ (by rw [e3, List.map_append]; exact k3)
        rw [← eF]
        exact new_nil hl
end
end Mob

set_option Elab.async false
set_option linter.all false
set_option maxRecDepth 100000
set_option maxHeartbeats 4000000
namespace Mob
open PySem PySem.Spec PyProof.Rows L2
section
variable {P : Program} {w : World} {K : PySem.W.Frag} {mg : Str → Option Value} {base : Heap}
/-! ### Switch: drop, leave, disconnect, lost -/
def keepC (c : Int) (ac : List (Addr × CallR)) : List (Addr × CallR) := ac.filter fun x => decide (x.2.caller ≠ c)
def spDrop (K : PySem.W.Frag) : Sp := sp4 fun a b c d H Q => ∃ (L : Lb) (sw ho : Addr) (A : PA) (ac : List (Addr × CallR)) (al : List (Addr × LineR)) (cA : Addr) (r : CallR) (t e : Int), a = .ref sw ∧ b = .ref cA ∧ c = .int t ∧ d = .int e ∧ PN K L H sw ho A ac al ∧ (cA, r) ∈ ac ∧ ac.length ≤ 1000 ∧
  (∀ i, r.line = some i → ∃ x, al[i]? = some x ∧ x.2.fin = none) ∧
  ∀ (L' : Lb) (H' : Hp) (A' : PA) (al' : List (Addr × LineR)), Step S59 L H L' H' → PN K L' H' sw ho A' (keepC r.caller ac) al' → al'.map (·.2) = dropL (al.map (·.2)) r t e → (∃ dc, H' cA = some (.ins (cCl K) dc (callFs r))) → Q .non H'
theorem oN_non (o : Option Nat) : (!decide (oN o = V.non)) = o.isSome := by cases o <;> simp [oN]
theorem ok_Switch_drop (T : Hd K mg) : OkD P w K mg base d_Switch_drop 2 P_Switch_drop (spDrop K) := by
  obtain ⟨fd, F⟩ := T.says.def_ 23 (d := d_Switch_drop) rfl
  obtain ⟨_, F_Book_end, b_Book_end, G_Book_end⟩ := ok_Book_end (P := P) (w := w) (base := base) T
  refine ⟨fd, F, F.bindsN (ps := P_Switch_drop) (fun _ _ _ _ _ _ us hl => match us, hl with | [_, _, _, _], _ => rfl), F.ok sc_Switch_drop (fun vs H Q E h => sp4_len h) (fun cdv A outer s H vs Q E hr h => ?_)⟩
  have hu := hu_of hr
  obtain ⟨a, b, c, d, rfl, L, sw, ho, B, ac, al, cA, r, tk, cs, rfl, rfl, rfl, rfl, N, hx, hlen, hline, k⟩ := h
  obtain ⟨dc, hc⟩ := N.calls _ hx
  refine ⟨_, PSs.nox (pss_cons (ps_fld (pv 0) (pe_lc (own := [("other", 4)]) (g := gName 4) rfl sc_Switch_drop.nd (pi_list (pe_fld (pv 0) rfl)) (blkOk_by (own := [("other", 4)]) (N := N_Switch_drop) (sc := defScope s_Switch_drop) (by decide +kernel)) (fun _ _ _ _ _ => pg_name (i := 4) sc_Switch_drop.nd rfl (Or.inl rfl)) (fun _ _ _ _ _ => (pts_one (pt_cmpR op_ne (pe_fldK (K := K) (pv 4) (by rfl) (by rfl)) (pe_fldK (K := K) (pv 1) (by rfl) (by rfl)) (nomark _)))) (fun _ _ _ _ _ => (pv 4))) rfl) (pss_one (ps_if (pt_cmpR op_notN (pe_fld (pv 1) rfl) pe_non (nomark _)) (pss_one (ps_expr (pe_meth (pe_fld (pv 0) rfl) T.cl_Book T.me_Book_end G_Book_end (hr.mono (by decide)) b_Book_end .nil pass0 (pa_cons (pe_fld (pv 1) rfl) (pa_cons (pv 2) (pa_cons (pv 3) pa_nil)))))) pss_nil))), ?_⟩
  refine ⟨_, rfl, _, cSw K, _, _, _, rfl, N.sw.1, T.cl_Switch, T.na_Switch_rows, rfl, _, rfl, ⟨_, SqL.of N.rl.1⟩, fun D hD => lc_list (K := K) (a := B.rl) (xs := ac.map fun x => V.ref x.1)
    (fun i H2 => Same H H2 ∧ H2 D = some (.lst ((keepC r.caller (ac.take i)).map fun x => V.ref x.1))) ⟨same_new hD, upd_same⟩ (fun i H2 _ h => SqL.of (h.1 _ _ N.rl.1)) ?_ ?_⟩
  · rintro i x H2 hi ⟨s2, h2⟩
    obtain ⟨y, hy, rfl⟩ := map_at hi
    obtain ⟨dy, hcy⟩ := N.calls y (List.mem_of_getElem? hy)
    have et : ac.take (i + 1) = ac.take i ++ [y] := by rw [List.take_succ, hy]; rfl
    have hil := (List.getElem?_eq_some_iff.mp hy).1
    refine ⟨rfl, _, rfl, _, _, _, _, _, rfl, s2 _ _ hcy.1, T.cl_Call, T.na_Call_caller, rfl, _, rfl, _, _, _, _, _, rfl, s2 _ _ hc.1, T.cl_Call, T.na_Call_caller, rfl, rfl, _, rfl, ?_⟩
    rw [decVI]
    cases h1 : decide (y.2.caller = r.caller) with
    | true =>
      refine iteF ⟨s2, ?_⟩
      unfold keepC
      rw [et, List.filter_append, List.filter_cons, if_neg (by simpa using h1), List.filter_nil, List.append_nil]
      exact h2
    | false =>
      refine iteT ⟨_, rfl, _, h2, ?_, same_mut s2 hD, ?_⟩
      · rw [List.length_map]
        refine small1000 (Nat.le_trans (List.length_filter_le _ _) ?_)
        rw [List.length_take]
        omega
      · rw [upd_same, et]
        unfold keepC
        rw [List.filter_append, List.filter_cons, if_pos (by simpa using h1), List.filter_nil, List.map_append]
        rfl
  · rintro H2 ⟨s2, h2⟩
    rw [List.take_of_length_le (by rw [List.length_map]; exact Nat.le_refl _)] at h2
    refine ⟨_, rfl, _, _, _, _, rfl, s2 _ _ N.sw.1, T.cl_Switch, T.na_Switch_rows, (by show 3 < 1000; decide), ?_⟩
    have N2 := N.setRows s2 hD h2 List.filter_sublist
    have st2 := Step.rows (S := S59) (o := .ins (cSw K) B.dsw (swFs ho B.bk D)) N s2 hD ⟨by decide, by decide⟩
    have hc2 : (upd H2 sw (.ins (cSw K) B.dsw (swFs ho B.bk D))) cA = some (.ins (cCl K) dc (callFs r)) := upd_off (s2 _ _ hc.1) (hc.ne N.sw.2 (by decide))
    refine ⟨_, rfl, _, _, _, _, _, rfl, hc2, T.cl_Call, T.na_Call_line, rfl, rfl, _, rfl, ?_⟩
    show (if (!decide (oN r.line = V.non)) = true then _ else _)
    rw [oN_non]
    cases el : r.line with
    | none =>
      refine iteF ?_
      refine k _ _ _ al st2 N2 ?_ ⟨dc, hc2⟩
      unfold dropL
      rw [el]
    | some i =>
      obtain ⟨⟨tp, l⟩, hi, hf⟩ := hline i el
      refine iteT ⟨_, rfl, _, _, _, _, _, rfl, N2.sw.1, T.cl_Switch, T.na_Switch_book, rfl, B.bk, _, _, rfl, N2.bk.1, rfl, _, rfl, _, _, _, _, _, rfl, hc2, T.cl_Call, T.na_Call_line, rfl, _, rfl, _, rfl, _, _, _, _, rfl, B.bk, B.dbk, B.bl, tp, _, i, l, tk, cs, rfl, by rw [el]; rfl, rfl, rfl, N2.bk.1, N2.bl.1, by rw [List.getElem?_map, hi]; rfl, N2.lines _ (List.mem_of_getElem? hi), hf, fun t2 ht2 => ?_⟩
      have N3 := N2.endLine (l' := { l with fin := some (tk, cs) }) ht2 hi
      have st3 := Step.book (S := S59) N2 (t := t2) (o := .tup (lineV { l with fin := some (tk, cs) })) (u := .lst ((al.map fun x => V.ref x.1).set i (.ref t2))) ht2 ⟨by decide, by decide⟩
      refine k _ _ _ _ (st2.trans st3) N3 ?_ ⟨dc, ?_⟩
      · unfold dropL
        rw [el]
        show (al.set i (t2, { l with fin := some (tk, cs) })).map (·.2) = endL (al.map (·.2)) i tk cs
        rw [endL_set (l := l) (by rw [List.getElem?_map, hi]; rfl), List.map_set]
      · exact upd_off (upd_old hc2 ht2) (ne_of hc2 N2.bl.1 (by intro z; cases z))
/-- what leave leans on -/
structure PLv (K : PySem.W.Frag) (L : Lb) (H : Hp) (sw ho : Addr) (A : PA) (ac : List (Addr × CallR)) (al : List (Addr × LineR)) : Prop where
  N : PN K L H sw ho A ac al
  cd : ∀ x ∈ ac, ∃ g, x.2.called = some g
  len : ac.length ≤ 1000
  line : ∀ x ∈ ac, ∀ i, x.2.line = some i → ∃ y, al[i]? = some y ∧ y.2.fin = none
def spLeave (K : PySem.W.Frag) : Sp := sp4 fun a b c d H Q => ∃ (L : Lb) (sw ho : Addr) (A : PA) (ac : List (Addr × CallR)) (al : List (Addr × LineR)) (p e t : Int), a = .ref sw ∧ b = .int p ∧ c = .int e ∧ d = .int t ∧ PLv K L H sw ho A ac al ∧
  PPost K L H sw ho (mLeave ⟨ac.map (·.2), al.map (·.2)⟩ p e t) Q
theorem ok_Switch_leave (T : Hd K mg) : OkD P w K mg base d_Switch_leave 3 P_Switch_leave (spLeave K) := by
  obtain ⟨fd, F⟩ := T.says.def_ 24 (d := d_Switch_leave) rfl
  obtain ⟨_, F_Switch_is_leg, b_Switch_is_leg, G_Switch_is_leg⟩ := ok_Switch_is_leg (P := P) (w := w) (base := base) T
  obtain ⟨_, F_Switch_find, b_Switch_find, G_Switch_find⟩ := ok_Switch_find (P := P) (w := w) (base := base) T
  obtain ⟨_, F_Switch_clear, b_Switch_clear, G_Switch_clear⟩ := ok_Switch_clear (P := P) (w := w) (base := base) T
  obtain ⟨_, F_Call_other, b_Call_other, G_Call_other⟩ := ok_Call_other (P := P) (w := w) (base := base) T
  obtain ⟨_, F_Switch_drop, b_Switch_drop, G_Switch_drop⟩ := ok_Switch_drop (P := P) (w := w) (base := base) T
  refine ⟨fd, F, F.bindsN (ps := P_Switch_leave) (fun _ _ _ _ _ _ us hl => match us, hl with | [_, _, _, _], _ => rfl), F.ok sc_Switch_leave (fun vs H Q E h => sp4_len h) (fun cdv A outer s H vs Q E hr h => ?_)⟩
  have hu := hu_of hr
  obtain ⟨a, b, c, d, rfl, L, sw, ho, B, ac, al, p, e, tk, rfl, rfl, rfl, rfl, ⟨N, hcd, hlen, hline⟩, k⟩ := h
  refine ⟨_, PSs.nox (pss_cons (ps_if (pt_not (pt_val (pe_meth (pv 0) T.cl_Switch T.me_Switch_is_leg G_Switch_is_leg (hr.mono (by decide)) b_Switch_is_leg .nil pass0 (pa_cons (pv 1) pa_nil)))) (pss_one (ps_ret (pe_lst pa_nil))) pss_nil) (pss_cons (ps_set (i := 4) sc_Switch_leave.nd rfl (Or.inl rfl) (pe_meth (pv 0) T.cl_Switch T.me_Switch_find G_Switch_find (hr.mono (by decide)) b_Switch_find .nil pass0 (pa_cons (pv 1) pa_nil))) (pss_cons (ps_set (i := 5) sc_Switch_leave.nd rfl (Or.inl rfl) (pe_meth (pv 0) T.cl_Switch T.me_Switch_clear G_Switch_clear (hr.mono (by decide)) b_Switch_clear .nil pass0 (pa_cons (pv 4) (pa_cons (pe_meth (pv 4) T.cl_Call T.me_Call_other G_Call_other (hr.mono (by decide)) b_Call_other .nil pass0 (pa_cons (pv 1) pa_nil)) (pa_cons (pv 2) pa_nil))))) (pss_cons (ps_expr (pe_meth (pv 0) T.cl_Switch T.me_Switch_drop G_Switch_drop (hr.mono (by decide)) b_Switch_drop .nil pass0 (pa_cons (pv 4) (pa_cons (pv 3) (pa_cons (pv 2) pa_nil))))) (pss_one (ps_ret (pv 5))))))), ?_⟩
  refine ⟨_, rfl, sw, _, _, rfl, N.sw.1, rfl, _, rfl, _, _, rfl, L, sw, ho, B, ac, al, p, rfl, rfl, N, _, rfl, ?_⟩
  cases hl : legB (ac.map (·.2)) p with
  | false =>
    have em : mLeave ⟨ac.map (·.2), al.map (·.2)⟩ p e tk = ([], ⟨ac.map (·.2), al.map (·.2)⟩) := by
      unfold mLeave
      unfold legB at hl
      show (match findC (ac.map (·.2)) p with
        | none => _
        | some r => _) = _
      cases q : findC (ac.map (·.2)) p with
      | none => rfl
      | some r =>
        simp only [q] at hl ⊢
        rw [if_neg (by simpa using hl)]
    rw [em] at k
    refine iteT ⟨Nat.zero_le _, fun l hl => ?_⟩
    exact PPost.end_ N (new_nil hl) k
  | true =>
    cases ef : findA ac p with
    | none => rw [legB_none ef] at hl; cases hl
    | some x =>
      rw [legB_some ef] at hl
      have hx := findA_mem ef
      obtain ⟨cA, r⟩ := x
      obtain ⟨dc, hc⟩ := N.calls _ hx
      have em : mLeave ⟨ac.map (·.2), al.map (·.2)⟩ p e tk = (clearD r ((otherI r p).getD 0) e, ⟨dropC (ac.map (·.2)) r.caller, dropL (al.map (·.2)) r tk e⟩) := by
        unfold mLeave
        simp only [← findA_snd, ef, Option.map_some]
        rw [if_pos (by simpa using hl)]
      rw [em] at k
      refine iteF ⟨_, rfl, sw, _, _, rfl, N.sw.1, rfl, _, rfl, _, _, rfl, L, sw, ho, B, ac, al, p, rfl, rfl, N, ?_⟩
      rw [ef]
      refine ⟨_, rfl, sw, _, _, rfl, N.sw.1, rfl, _, rfl, _, rfl, cA, _, _, rfl, hc.1, rfl, _, rfl, _, _, rfl, cA, dc, r, p, rfl, rfl, hc.1, ?_⟩
      rw [otherI_some (hcd _ hx)]
      refine ⟨_, rfl, _, _, _, _, rfl, cA, dc, r, _, e, rfl, rfl, rfl, hc.1, fun v H1 nw => ?_⟩
      obtain ⟨L1, s1, a1, _⟩ := New.al (L := L) nw (fun _ => False)
      have N1 := N.keep s1 fun _ _ _ z => z
      have k1 := k.after (s1.mono fun _ z => z.elim)
      refine ⟨_, rfl, sw, _, _, rfl, N1.sw.1, rfl, _, rfl, _, rfl, _, rfl, _, _, _, _, rfl, L1, sw, ho, B, ac, al, cA, r, tk, e, rfl, rfl, rfl, rfl, N1, hx, hlen, hline _ hx, fun L2 H2 A2 al2 st2 N2 e2 _ => ?_⟩
      exact ⟨_, rfl, k1 L2 H2 A2 _ al2 v st2 N2 dropA_snd e2 (a1.keep st2 fun z => absurd z.1 (by decide))⟩
def spDisc (K : PySem.W.Frag) : Sp := sp4 fun a b c d H Q => ∃ (L : Lb) (sw ho : Addr) (A : PA) (ac : List (Addr × CallR)) (al : List (Addr × LineR)) (p e t : Int), a = .ref sw ∧ b = .int p ∧ c = .int e ∧ d = .int t ∧ PLv K L H sw ho A ac al ∧
  PPost K L H sw ho (relD p :: (mLeave ⟨ac.map (·.2), al.map (·.2)⟩ p e t).1, (mLeave ⟨ac.map (·.2), al.map (·.2)⟩ p e t).2) Q
theorem leave_len (N : Net) (p e t : Int) : (mLeave N p e t).1.length ≤ 2 := by
  unfold mLeave
  split
  · exact Nat.zero_le _
  · split
    · unfold clearD
      split <;> simp [refuseD]
    · exact Nat.zero_le _
theorem ok_Switch_disconnect (T : Hd K mg) : OkD P w K mg base d_Switch_disconnect 4 P_Switch_disconnect (spDisc K) := by
  obtain ⟨fd, F⟩ := T.says.def_ 25 (d := d_Switch_disconnect) rfl
  obtain ⟨_, F_Switch_leave, b_Switch_leave, G_Switch_leave⟩ := ok_Switch_leave (P := P) (w := w) (base := base) T
  refine ⟨fd, F, F.bindsN (ps := P_Switch_disconnect) (fun _ _ _ _ _ _ us hl => match us, hl with | [_, _, _, _], _ => rfl), F.ok sc_Switch_disconnect (fun vs H Q E h => sp4_len h) (fun cdv A outer s H vs Q E hr h => ?_)⟩
  have hu := hu_of hr
  obtain ⟨a, b, c, d, rfl, L, sw, ho, B, ac, al, p, e, tk, rfl, rfl, rfl, rfl, ⟨N, hcd, hlen, hline⟩, k⟩ := h
  refine ⟨_, PSs.nox (pss_one (ps_ret (pe_op op_cat (pe_lst (pa_cons (pe_tup (pa_cons pe_str (pa_cons (pv 1) pa_nil))) pa_nil)) (pe_meth (pv 0) T.cl_Switch T.me_Switch_leave G_Switch_leave (hr.mono (by decide)) b_Switch_leave .nil pass0 (pa_cons (pv 1) (pa_cons (pv 2) (pa_cons (pv 3) pa_nil))))))), ?_⟩
  refine ⟨_, rfl, by show 2 ≤ sizeLine; decide, fun t ht => ⟨by show 1 ≤ sizeLine; decide, fun l hl => ?_⟩⟩
  have s1 := (same_new (o := .tup [.str "release", .int p]) ht).trans (same_new (o := .lst [.ref t]) hl)
  have hl0 := upd_free hl
  have st1 : Step (fun _ => False) L H (setL L l 0) (upd (upd H t (.tup [.str "release", .int p])) l (.lst [.ref t])) := (Step.relab hl0).trans (Step.same s1)
  have N1 := N.keep st1 fun _ _ _ z => z
  have a1 : AL (setL L l 0) (upd (upd H t (.tup [.str "release", .int p])) l (.lst [.ref t])) 0 (.ref l) [relD p] := ⟨l, _, rfl, ⟨upd_same, setL_same⟩, .cons (.tup (upd_old upd_same hl) (.cons (.str _) (.cons (.int _) .nil))) .nil⟩
  refine ⟨_, rfl, sw, _, _, rfl, N1.sw.1, rfl, _, rfl, _, rfl, _, rfl, _, _, _, _, rfl, _, sw, ho, B, ac, al, p, e, tk, rfl, rfl, rfl, rfl, ⟨N1, hcd, hlen, hline⟩, ?_⟩
  intro L2 H2 A2 ac2 al2 v st2 N2 e1 e2 a2
  have a3 := a1.keep st2 fun z => absurd z.1 (by decide)
  obtain ⟨q1, xs1, eq1, b1, t1⟩ := a3
  obtain ⟨q2, xs2, rfl, b2, t2⟩ := a2
  cases eq1
  refine ⟨l, q2, xs1, xs2, rfl, rfl, b1.1, b2.1, ?_, fun w hw => ?_⟩
  · rw [t1.length, t2.length]
    exact Nat.le_trans (Nat.add_le_add_left (leave_len _ _ _ _) _) (by show 3 ≤ sizeLine; decide)
  · exact k.after (st1.mono fun _ z => z.elim) (setL L2 w 0) _ A2 ac2 al2 _ (st2.trans ((Step.relab hw).trans (Step.alloc hw))) (N2.keep (S := fun _ => False) ((Step.relab hw).trans (Step.alloc hw)) fun _ _ _ z => z) e1 e2 ⟨w, _, rfl, ⟨upd_same, setL_same⟩, (t1.append t2).same (same_new hw)⟩
def spLost (K : PySem.W.Frag) : Sp := sp3 fun a b c H Q => ∃ (L : Lb) (sw ho : Addr) (A : PA) (ac : List (Addr × CallR)) (al : List (Addr × LineR)) (p t : Int), a = .ref sw ∧ b = .int p ∧ c = .int t ∧ PLv K L H sw ho A ac al ∧
  PPost K L H sw ho (mLeave ⟨ac.map (·.2), al.map (·.2)⟩ p 27 t) Q
theorem ok_Switch_lost (T : Hd K mg) : OkD P w K mg base d_Switch_lost 4 P_Switch_lost (spLost K) := by
  obtain ⟨fd, F⟩ := T.says.def_ 26 (d := d_Switch_lost) rfl
  obtain ⟨_, F_Switch_leave, b_Switch_leave, G_Switch_leave⟩ := ok_Switch_leave (P := P) (w := w) (base := base) T
  refine ⟨fd, F, F.bindsN (ps := P_Switch_lost) (fun _ _ _ _ _ _ us hl => match us, hl with | [_, _, _], _ => rfl), F.ok sc_Switch_lost (fun vs H Q E h => sp3_len h) (fun cdv A outer s H vs Q E hr h => ?_)⟩
  have hu := hu_of hr
  obtain ⟨a, b, c, rfl, L, sw, ho, B, ac, al, p, tk, rfl, rfl, rfl, hP, k⟩ := h
  refine ⟨_, PSs.nox (pss_one (ps_ret (pe_meth (pv 0) T.cl_Switch T.me_Switch_leave G_Switch_leave (hr.mono (by decide)) b_Switch_leave .nil pass0 (pa_cons (pv 1) (pa_cons pe_int (pa_cons (pv 2) pa_nil)))))), ?_⟩
  exact ⟨_, rfl, sw, _, _, rfl, hP.N.sw.1, rfl, _, rfl, _, rfl, _, _, _, _, rfl, L, sw, ho, B, ac, al, p, 27, tk, rfl, rfl, rfl, rfl, hP, k⟩
end
end Mob

set_option Elab.async false
set_option linter.all false
set_option maxRecDepth 100000
set_option maxHeartbeats 4000000
namespace Mob
open PySem PySem.Spec PyProof.Rows L2
section
variable {P : Program} {w : World} {K : PySem.W.Frag} {mg : Str → Option Value} {base : Heap}
/-! ### Switch: not_reached, failed -/
theorem sidesV_filter : ∀ cs : List CallR, (sidesV cs).filter (fun v => !decide (v = V.non)) = (sidesI cs).map V.int
  | [] => rfl
  | r :: cs => by
    have ih := sidesV_filter cs
    unfold sidesV sidesI at *
    rw [List.flatMap_cons, List.flatMap_cons, List.filter_append, List.map_append, ih]
    cases r.called <;> rfl
theorem dropC_updC {cs : List CallR} {c : Int} {r' : CallR} (e : r'.caller = c) : dropC (updC cs c r') c = dropC cs c := by
  unfold dropC updC
  induction cs with
  | nil => rfl
  | cons x cs ih =>
    rw [List.map_cons]
    by_cases h : x.caller = c
    · rw [if_pos h, List.filter_cons, if_neg (by simp [e]), List.filter_cons, if_neg (by simp [h])]
      exact ih
    · rw [if_neg h, List.filter_cons, if_pos (by simp [h]), List.filter_cons, if_pos (by simp [h]), ih]
def spNotR (K : PySem.W.Frag) : Sp := sp5 fun a b c d e H Q => ∃ (L : Lb) (sw ho : Addr) (A : PA) (ac : List (Addr × CallR)) (al : List (Addr × LineR)) (Ah : HA) (ps : List PRec) (E : Env0) (cA : Addr) (r : CallR) (g : Int) (kd : Kd) (cs : Int) (lk : Addr) (linked : List Int),
  a = .ref sw ∧ b = .ref cA ∧ c = .str kd.s ∧ d = .int cs ∧ e = .ref lk ∧ PEv K L H sw ho A ac al ∧ HM K L H ho Ah ps ∧ Says ps E ∧ (cA, r) ∈ ac ∧ r.called = some g ∧ (0 ≤ g ∧ g < E.nums.length) ∧ r.line = none ∧ 0 ≤ r.hops ∧ ac.length ≤ 1000 ∧ At L H 0 lk (.lst (linked.map V.int)) ∧ linked.length ≤ 1000 ∧
  ∀ (L' : Lb) (H' : Hp) (A' : PA) (ac' : List (Addr × CallR)) (al' : List (Addr × LineR)) (v : V), Step S59 L H L' H' → PN K L' H' sw ho A' ac' al' → ac'.map (·.2) = (mNotReached E ⟨ac.map (·.2), al.map (·.2)⟩ r kd cs linked).2.cs → al'.map (·.2) = al.map (·.2) →
    AL L' H' 0 v (mNotReached E ⟨ac.map (·.2), al.map (·.2)⟩ r kd cs linked).1 → (∀ y ∈ ac, y.2.caller ≠ r.caller → y ∈ ac') → Q v H'
theorem ok_Switch_not_reached (T : Hd K mg) : OkD P w K mg base d_Switch_not_reached 5 P_Switch_not_reached (spNotR K) := by
  obtain ⟨fd, F⟩ := T.says.def_ 27 (d := d_Switch_not_reached) rfl
  obtain ⟨_, F_Home_forward, b_Home_forward, G_Home_forward⟩ := ok_Home_forward (P := P) (w := w) (base := base) T
  obtain ⟨_, F_Switch_sides, b_Switch_sides, G_Switch_sides⟩ := ok_Switch_sides (P := P) (w := w) (base := base) T
  obtain ⟨_, F_find_goal, b_find_goal, G_find_goal⟩ := ok_find_goal (P := P) (w := w) (base := base) T
  obtain ⟨_, F_Switch_drop, b_Switch_drop, G_Switch_drop⟩ := ok_Switch_drop (P := P) (w := w) (base := base) T
  obtain ⟨_, F_refuse, b_refuse, G_refuse⟩ := ok_refuse (P := P) (w := w) (base := base) T
  obtain ⟨_, v_HOPS⟩ := T.v_HOPS
  refine ⟨fd, F, F.bindsN (ps := P_Switch_not_reached) (fun _ _ _ _ _ _ us hl => match us, hl with | [_, _, _, _, _], _ => rfl), F.ok sc_Switch_not_reached (fun vs H Q E h => sp5_len h) (fun cdv A outer s H vs Q E hr h => ?_)⟩
  have hu := hu_of hr
  obtain ⟨a, b, c, d, e, rfl, L, sw, ho, B, ac, al, Ah, ps, Ev, cA, r, g, kd, cs, lk, linked, rfl, rfl, rfl, rfl, rfl, ⟨N, hnd⟩, M, Sy, hx, hg, ⟨g0, g1⟩, hln, hhp, hlen, hlk, hll, k⟩ := h
  obtain ⟨dc, hc⟩ := N.calls _ hx
  obtain ⟨i, hi⟩ : ∃ i : Nat, g = (i : Int) := ⟨g.toNat, by omega⟩
  subst hi
  obtain ⟨pr, hpr⟩ := Sy.at_ (i := i) (by omega)
  refine ⟨_, PSs.nox (pss_cons (ps_set (i := 5) sc_Switch_not_reached.nd rfl (Or.inl rfl) (pe_meth (pe_fld (pv 0) rfl) T.cl_Home T.me_Home_forward G_Home_forward (hr.mono (by decide)) b_Home_forward .nil pass0 (pa_cons (pe_fld (pv 1) rfl) (pa_cons (pv 2) pa_nil)))) (pss_cons (ps_set (i := 6) sc_Switch_not_reached.nd rfl (Or.inl rfl) pe_non) (pss_cons (ps_fld (pv 1) pe_non rfl) (pss_cons (ps_if (pt_cmpR op_notN (pv 5) pe_non (nomark _)) (pss_cons (ps_set (i := 3) sc_Switch_not_reached.nd rfl (Or.inl rfl) pe_int) (pss_one (ps_if (pt_cmpR op_lt (pe_fld (pv 1) rfl) (pe_glob (v := .int 2) (by rfl) v_HOPS ⟨_, rfl⟩) (nomark _)) (pss_cons (ps_set (i := 7) sc_Switch_not_reached.nd rfl (Or.inl rfl) (pe_op op_cat (pe_lc (own := [("side", 8)]) (g := gName 8) rfl sc_Switch_not_reached.nd (pi_list (pe_meth0 (pv 0) T.cl_Switch T.me_Switch_sides G_Switch_sides (hr.mono (by decide)) b_Switch_sides .nil pass0)) (blkOk_by (own := [("side", 8)]) (N := N_Switch_not_reached) (sc := defScope s_Switch_not_reached) (by decide +kernel)) (fun _ _ _ _ _ => pg_name (i := 8) sc_Switch_not_reached.nd rfl (Or.inl rfl)) (fun _ _ _ _ _ => (pts_one (pt_cmpR op_notN (pv 8) pe_non (nomark _)))) (fun _ _ _ _ _ => (pv 8))) (pe_callTy call_list_of (by rfl) T.fr_list (by decide +kernel) (pa_cons (pv 4) pa_nil)))) (pss_one (ps_asg (pe_call G_find_goal (hr.mono (by decide)) (by rfl) T.gl_find_goal F_find_goal.kp b_find_goal .nil pass0 (pa_cons (pe_fld (pv 0) rfl) (pa_cons (pv 5) (pa_cons (pe_fld (pv 1) rfl) (pa_cons (pv 7) (pa_cons (pe_op op_add (pe_fld (pv 1) rfl) pe_int) pa_nil)))))) (pg_tup rfl (pgs_cons (pg_name (i := 6) sc_Switch_not_reached.nd rfl (Or.inl rfl)) (pgs_cons (pg_name (i := 3) sc_Switch_not_reached.nd rfl (Or.inl rfl)) (pgs_cons (pg_fld (pv 1) (fun _ => rfl)) pgs_nil))))))) pss_nil))) pss_nil) (pss_cons (ps_if (pt_cmpR op_isN (pv 6) pe_non (nomark _)) (pss_cons (ps_expr (pe_meth (pv 0) T.cl_Switch T.me_Switch_drop G_Switch_drop (hr.mono (by decide)) b_Switch_drop .nil pass0 (pa_cons (pv 1) (pa_cons pe_int (pa_cons (pv 3) pa_nil))))) (pss_one (ps_ret (pe_call G_refuse (hr.mono (by decide)) (by rfl) T.gl_refuse F_refuse.kp b_refuse .nil pass0 (pa_cons (pe_fld (pv 1) rfl) (pa_cons (pv 3) pa_nil)))))) pss_nil) (pss_cons (ps_fld (pv 1) (pv 6) rfl) (pss_cons (ps_fld (pv 1) pe_str rfl) (pss_one (ps_ret (pe_lst (pa_cons (pe_tup (pa_cons pe_str (pa_cons (pv 6) pa_nil))) pa_nil))))))))))), ?_⟩
  refine ⟨_, rfl, _, _, _, _, _, rfl, N.sw.1, T.cl_Switch, T.na_Switch_home, rfl, ho, _, _, rfl, M.ho.1, rfl, _, rfl, _, _, _, _, _, rfl, hc.1, T.cl_Call, T.na_Call_called, rfl, _, rfl, _, _, _, rfl, L, ho, Ah, ps, i, pr, kd.s, rfl, by show oI r.called = _; rw [hg]; rfl, rfl, M, hpr, ?_⟩
  rw [(Sy.ok i pr hpr).2, num_get]
  have efw : (Ev.fs.getD (r.called.getD 0).toNat fct0).fw kd = (Ev.fs.getD i fct0).fw kd := by
    rw [hg]
    show (Ev.fs.getD ((i : Int)).toNat fct0).fw kd = _
    rw [Int.toNat_natCast]
  refine ⟨_, rfl, _, _, _, _, rfl, hc.1, T.cl_Call, T.na_Call_called, (by show 6 < 1000; decide), ?_⟩
  have N1 := N.setCall (dc := dc) (r' := { r with called := none }) hx
  have st1 := Step.call (S := S59) N (dc := dc) (r' := { r with called := none }) hx ⟨by decide, by decide⟩
  have M1 := M.keep st1 (fun k q1 q2 z => by unfold S59 at z; omega)
  have hlk1 := hlk.keep st1 (fun z => absurd z.1 (by decide))
  have hc1 : (upd H cA (.ins (cCl K) dc (callFs { r with called := none }))) cA = some (.ins (cCl K) dc (callFs { r with called := none })) := upd_same
  refine ⟨_, rfl, rfl, _, rfl, ?_⟩
  show (if (!decide (oS ((Ev.fs.getD i fct0).fw kd) = V.non)) = true then _ else _)
  rw [oS_non]
  cases hf : (Ev.fs.getD i fct0).fw kd with
  | none =>
    have em : mNotReached Ev ⟨ac.map (·.2), al.map (·.2)⟩ r kd cs linked = (refuseD r.caller cs, ⟨dropC (ac.map (·.2)) r.caller, al.map (·.2)⟩) := by
      unfold mNotReached
      rw [efw, hf]
    refine iteF ?_
    -- N1: net at the heap, { r with called := none }: the call's record, cs: cause, st1: the step so far, em: equation of the event
    refine ⟨_, rfl, rfl, _, rfl, iteT ?_⟩
    refine ⟨_, rfl, sw, _, _, rfl, (N1).sw.1, rfl, _, rfl, _, rfl, _, _, _, _, rfl, _, sw, ho, B, _, al, cA, { r with called := none }, 0, cs, rfl, rfl, rfl, rfl, N1, mem_setA_same hx, by unfold setA; rw [List.length_map]; exact hlen, fun i hi => absurd ((show r.line = some i from hi).symm.trans hln) (by simp), fun L3 H3 A3 al3 st3 N3 e3 hc3 => ?_⟩
    obtain ⟨dc3, hc3⟩ := hc3
    refine ⟨_, rfl, _, _, _, _, _, rfl, hc3, T.cl_Call, T.na_Call_caller, rfl, _, rfl, _, _, rfl, r.caller, cs, rfl, rfl, fun v H4 nw => ?_⟩
    obtain ⟨L4, s4, a4, _⟩ := New.al (L := L3) nw (fun _ => False)
    refine k L4 H4 A3 _ al3 v (((st1).trans st3).trans (s4.mono fun _ z => z.elim)) (N3.keep s4 fun _ _ _ z => z) ?_ ?_ ?_ ?_
    · rw [em]
      show (keepC r.caller (setA ac cA { r with called := none })).map (·.2) = dropC (ac.map (·.2)) r.caller
      unfold keepC
      rw [dropA_snd, setA_snd hnd N.nd hx]
      exact dropC_updC rfl
    · rw [e3]
      unfold dropL
      show (match r.line with
        | none => _
        | some i => _) = _
      rw [hln]
    · rw [em]
      exact a4
    · intro y hy hyc
      refine List.mem_filter.mpr ⟨mem_setA_other hy fun z => hyc ?_, by simpa using hyc⟩
      rw [fst_one N.nd hy hx z]
  | some num =>
    refine iteT ?_
    refine ⟨_, rfl, _, _, _, _, _, rfl, hc1, T.cl_Call, T.na_Call_hops, rfl, _, _, rfl, rfl, _, rfl, ?_⟩
    show (if decide (r.hops < 2) = true then _ else _)
    cases hh : decide (r.hops < 2) with
    | false =>
      have hh' := of_decide_eq_false hh
      have em : mNotReached Ev ⟨ac.map (·.2), al.map (·.2)⟩ r kd cs linked = (refuseD r.caller 31, ⟨dropC (ac.map (·.2)) r.caller, al.map (·.2)⟩) := by
        unfold mNotReached
        rw [efw, hf]
        show (if 2 ≤ r.hops then _ else _) = _
        rw [if_pos (by omega)]
      refine iteF ?_
      -- N1: net at the heap, { r with called := none }: the call's record, 31: cause, st1: the step so far, em: equation of the event
      refine ⟨_, rfl, rfl, _, rfl, iteT ?_⟩
      refine ⟨_, rfl, sw, _, _, rfl, (N1).sw.1, rfl, _, rfl, _, rfl, _, _, _, _, rfl, _, sw, ho, B, _, al, cA, { r with called := none }, 0, 31, rfl, rfl, rfl, rfl, N1, mem_setA_same hx, by unfold setA; rw [List.length_map]; exact hlen, fun i hi => absurd ((show r.line = some i from hi).symm.trans hln) (by simp), fun L3 H3 A3 al3 st3 N3 e3 hc3 => ?_⟩
      obtain ⟨dc3, hc3⟩ := hc3
      refine ⟨_, rfl, _, _, _, _, _, rfl, hc3, T.cl_Call, T.na_Call_caller, rfl, _, rfl, _, _, rfl, r.caller, 31, rfl, rfl, fun v H4 nw => ?_⟩
      obtain ⟨L4, s4, a4, _⟩ := New.al (L := L3) nw (fun _ => False)
      refine k L4 H4 A3 _ al3 v (((st1).trans st3).trans (s4.mono fun _ z => z.elim)) (N3.keep s4 fun _ _ _ z => z) ?_ ?_ ?_ ?_
      · rw [em]
        show (keepC r.caller (setA ac cA { r with called := none })).map (·.2) = dropC (ac.map (·.2)) r.caller
        unfold keepC
        rw [dropA_snd, setA_snd hnd N.nd hx]
        exact dropC_updC rfl
      · rw [e3]
        unfold dropL
        show (match r.line with
          | none => _
          | some i => _) = _
        rw [hln]
      · rw [em]
        exact a4
      · intro y hy hyc
        refine List.mem_filter.mpr ⟨mem_setA_other hy fun z => hyc ?_, by simpa using hyc⟩
        rw [fst_one N.nd hy hx z]
    | true =>
      have hh' := of_decide_eq_true hh
      refine iteT ?_
      refine ⟨_, rfl, sw, _, _, rfl, N1.sw.1, rfl, _, rfl, L, sw, ho, B, _, al, rfl, N1, by unfold setA; rw [List.length_map]; exact hlen, fun l1 H2 s2 hl1 hl1' => ?_⟩
      refine ⟨l1, rfl, ⟨_, SqL.of hl1'⟩, fun D hD => lc_list (K := K) (a := l1) (xs := sidesV ((setA ac cA { r with called := none }).map (·.2)))
        (fun i H3 => Same H2 H3 ∧ H3 D = some (.lst (((sidesV ((setA ac cA { r with called := none }).map (·.2))).take i).filter fun v => !decide (v = V.non)))) ⟨same_new hD, upd_same⟩ (fun i H3 _ h => SqL.of (h.1 _ _ hl1')) ?_ ?_⟩
      · rintro j x H3 hj ⟨s3, h3⟩
        have et : (sidesV ((setA ac cA { r with called := none }).map (·.2))).take (j + 1) = (sidesV ((setA ac cA { r with called := none }).map (·.2))).take j ++ [x] := by rw [List.take_succ, hj]; rfl
        have hjl := (List.getElem?_eq_some_iff.mp hj).1
        rw [sidesV_len, List.length_map] at hjl
        have hjl2 : j < 2 * ac.length := by
          have : (setA ac cA { r with called := none }).length = ac.length := by unfold setA; rw [List.length_map]
          rw [this] at hjl
          exact hjl
        refine ⟨rfl, _, rfl, rfl, _, rfl, ?_⟩
        show (if (!decide (x = V.non)) = true then _ else _)
        cases h1 : decide (x = V.non) with
        | true =>
          refine iteF ⟨s3, ?_⟩
          rw [et, List.filter_append, List.filter_cons, if_neg (by rw [h1]; simp), List.filter_nil, List.append_nil]
          exact h3
        | false =>
          refine iteT ⟨_, rfl, _, h3, ?_, same_mut s3 hD, ?_⟩
          · refine Nat.lt_of_le_of_lt (Nat.le_trans (List.length_filter_le _ _) (List.length_take_le _ _)) ?_
            exact Nat.lt_of_lt_of_le hjl2 (Nat.le_trans (show 2 * ac.length ≤ 3000 by omega) (by decide))
          · rw [upd_same, et, List.filter_append, List.filter_cons, if_pos (by rw [h1]; rfl), List.filter_nil]
      · rintro H3 ⟨s3, h3⟩
        rw [List.take_of_length_le (Nat.le_refl _), sidesV_filter] at h3
        have s13 := s2.trans s3
        refine ⟨_, rfl, lk, _, rfl, .inl (SqL.of (s13 _ _ hlk1.1)), fun l2 hl2 => ?_⟩
        refine ⟨D, l2, _, _, rfl, rfl, upd_old h3 hl2, upd_same, ?_, fun l3 hl3 => ?_⟩
        · rw [List.length_map, List.length_map]
          refine Nat.le_trans (Nat.add_le_add_right (m := 2000) ?_ _) (Nat.le_trans (show 2000 + linked.length ≤ 3000 by omega) (by decide))
          have q1 : (sidesI ((setA ac cA { r with called := none }).map (·.2))).length = ((sidesI ((setA ac cA { r with called := none }).map (·.2))).map V.int).length := by rw [List.length_map]
          rw [q1, ← sidesV_filter]
          refine Nat.le_trans (List.length_filter_le _ _) ?_
          rw [sidesV_len]
          unfold setA
          rw [List.length_map, List.length_map]
          omega
        have s14 := (s13.trans (same_new (o := .lst (linked.map V.int)) hl2)).trans (same_new (o := .lst ((sidesI ((setA ac cA { r with called := none }).map (·.2))).map V.int ++ linked.map V.int)) hl3)
        have N4 := N1.same s14
        have M4 := M1.same s14
        have hc4 := s14 _ _ hc1
        refine ⟨_, rfl, _, _, _, _, _, rfl, N4.sw.1, T.cl_Switch, T.na_Switch_home, rfl, _, rfl, _, rfl, _, _, _, _, _, rfl, hc4, T.cl_Call, T.na_Call_caller, rfl, _, rfl, _, rfl, _, _, _, _, _, rfl, hc4, T.cl_Call, T.na_Call_hops, rfl, _, _, rfl, rfl,
          _, _, _, _, _, rfl, L, ho, Ah, ps, Ev, num, r.caller, l3, sidesI ((setA ac cA { r with called := none }).map (·.2)) ++ linked, r.hops + 1, rfl, rfl, rfl, rfl, rfl, M4, Sy, ?_, by omega, by omega, fun t H5 s5 ht => ?_⟩
        · refine SqL.of ?_
          rw [List.map_append]
          exact upd_same
        have s15 := s14.trans s5
        have N5 := N1.same s15
        have hc5 := s15 _ _ hc1
        have st5 := st1.trans (Step.same s15)
        have eb : sidesI ((setA ac cA { r with called := none }).map (·.2)) = sidesI (updC (ac.map (·.2)) r.caller { r with called := none }) := by rw [setA_snd hnd N.nd hx]
        rw [eb] at ht
        cases eg : goalN Ev.nums Ev.fs r.caller (sidesI (updC (ac.map (·.2)) r.caller { r with called := none }) ++ linked) 4 num (r.hops + 1) with
        | mk gl rr =>
          obtain ⟨c0, h0⟩ := rr
          rw [eg] at ht
          refine ⟨t, _, rfl, SqT.of ht, rfl, _, _, rfl, _, _, rfl, _, _, rfl, _, rfl, _, _, _, _, rfl, hc5, T.cl_Call, T.na_Call_hops, (by show 6 < 1000; decide), rfl, ?_⟩
          have hx5 : (cA, { r with called := none }) ∈ setA ac cA { r with called := none } := mem_setA_same hx
          have N6 := N5.setCall (dc := dc) (r' := { r with called := none, hops := h0 }) hx5
          rw [setA_twice] at N6
          have st6 := st5.trans (Step.call (S := S59) N5 (dc := dc) (r' := { r with called := none, hops := h0 }) hx5 ⟨by decide, by decide⟩)
          cases gl with
          | none =>
            have em : mNotReached Ev ⟨ac.map (·.2), al.map (·.2)⟩ r kd cs linked = (refuseD r.caller c0, ⟨dropC (ac.map (·.2)) r.caller, al.map (·.2)⟩) := by
              unfold mNotReached
              rw [efw, hf]
              show (if 2 ≤ r.hops then _ else _) = _
              rw [if_neg (by omega), eg]
            -- N6: net at the heap, { r with called := none, hops := h0 }: the call's record, c0: cause, st6: the step so far, em: equation of the event
            refine ⟨_, rfl, rfl, _, rfl, iteT ?_⟩
            refine ⟨_, rfl, sw, _, _, rfl, (N6).sw.1, rfl, _, rfl, _, rfl, _, _, _, _, rfl, _, sw, ho, B, _, al, cA, { r with called := none, hops := h0 }, 0, c0, rfl, rfl, rfl, rfl, N6, mem_setA_same hx, by unfold setA; rw [List.length_map]; exact hlen, fun i hi => absurd ((show r.line = some i from hi).symm.trans hln) (by simp), fun L3 H3 A3 al3 st3 N3 e3 hc3 => ?_⟩
            obtain ⟨dc3, hc3⟩ := hc3
            refine ⟨_, rfl, _, _, _, _, _, rfl, hc3, T.cl_Call, T.na_Call_caller, rfl, _, rfl, _, _, rfl, r.caller, c0, rfl, rfl, fun v H4 nw => ?_⟩
            obtain ⟨L4, s4, a4, _⟩ := New.al (L := L3) nw (fun _ => False)
            refine k L4 H4 A3 _ al3 v (((st6).trans st3).trans (s4.mono fun _ z => z.elim)) (N3.keep s4 fun _ _ _ z => z) ?_ ?_ ?_ ?_
            · rw [em]
              show (keepC r.caller (setA ac cA { r with called := none, hops := h0 })).map (·.2) = dropC (ac.map (·.2)) r.caller
              unfold keepC
              rw [dropA_snd, setA_snd hnd N.nd hx]
              exact dropC_updC rfl
            · rw [e3]
              unfold dropL
              show (match r.line with
                | none => _
                | some i => _) = _
              rw [hln]
            · rw [em]
              exact a4
            · intro y hy hyc
              refine List.mem_filter.mpr ⟨mem_setA_other hy fun z => hyc ?_, by simpa using hyc⟩
              rw [fst_one N.nd hy hx z]
          | some gg =>
            have em : mNotReached Ev ⟨ac.map (·.2), al.map (·.2)⟩ r kd cs linked = ([pageD gg], ⟨updC (ac.map (·.2)) r.caller { r with called := some gg, st := .looking, hops := h0 }, al.map (·.2)⟩) := by
              unfold mNotReached
              rw [efw, hf]
              show (if 2 ≤ r.hops then _ else _) = _
              rw [if_neg (by omega), eg]
            refine ⟨_, rfl, rfl, _, rfl, iteF ?_⟩
            have hx6 : (cA, { r with called := none, hops := h0 }) ∈ setA ac cA { r with called := none, hops := h0 } := mem_setA_same hx
            obtain ⟨dc6, hc6⟩ := N6.calls _ hx6
            refine ⟨_, rfl, _, rfl, _, _, _, _, rfl, hc6.1, T.cl_Call, T.na_Call_called, (by show 6 < 1000; decide), ?_⟩
            refine ⟨_, rfl, _, _, _, _, rfl, upd_same, T.cl_Call, T.na_Call_stage, (by show 6 < 1000; decide), ?_⟩
            have eH : ∀ H : Hp, upd (upd H cA (.ins (cCl K) dc6 (putF "called" (.int gg) (callFs { r with called := none, hops := h0 })))) cA (.ins (cCl K) dc6 (putF "stage" (.str "looking") (putF "called" (.int gg) (callFs { r with called := none, hops := h0 })))) = upd H cA (.ins (cCl K) dc6 (callFs { r with called := some gg, st := .looking, hops := h0 })) := fun H => upd_upd
            have N7 := N6.setCall (dc := dc6) (r' := { r with called := some gg, st := .looking, hops := h0 }) hx6
            rw [setA_twice] at N7
            have st7 := st6.trans (Step.call (S := S59) N6 (dc := dc6) (r' := { r with called := some gg, st := .looking, hops := h0 }) hx6 ⟨by decide, by decide⟩)
            refine ⟨_, rfl, by show 2 ≤ sizeLine; decide, fun u hu => ⟨by show 1 ≤ sizeLine; decide, fun l hl => ?_⟩⟩
            have nw : New (upd (upd H5 cA (.ins (cCl K) dc (callFs { r with called := none, hops := h0 }))) cA (.ins (cCl K) dc6 (callFs { r with called := some gg, st := .looking, hops := h0 }))) (upd (upd (upd (upd (upd H5 cA (.ins (cCl K) dc (callFs { r with called := none, hops := h0 }))) cA (.ins (cCl K) dc6 (putF "called" (.int gg) (callFs { r with called := none, hops := h0 })))) cA (.ins (cCl K) dc6 (putF "stage" (.str "looking") (putF "called" (.int gg) (callFs { r with called := none, hops := h0 }))))) u (.tup [.str "page", .int gg])) l (.lst [.ref u])) (.ref l) [pageD gg] := by
              rw [eH]
              exact ⟨(same_new (by rw [← eH]; exact hu)).trans (same_new (by rw [← eH]; exact hl)), l, _, rfl, by rw [← eH]; exact upd_free hl, upd_same, .cons (.tup (upd_old upd_same (by rw [← eH]; exact hl)) (.cons (.str _) (.cons (.int _) .nil))) .nil⟩
            obtain ⟨L8, s8, a8, _⟩ := New.al (L := L) nw (fun _ => False)
            refine k L8 _ _ _ _ _ (st7.trans (s8.mono fun _ z => z.elim)) (N7.keep s8 fun _ _ _ z => z) ?_ rfl ?_ ?_
            · rw [em]
              exact setA_snd hnd N.nd hx _
            · rw [em]
              exact a8
            · intro y hy hyc
              exact mem_setA_other hy fun z => hyc (by rw [fst_one N.nd hy hx z])
def spFailed (K : PySem.W.Frag) : Sp := sp4 fun a b c d H Q => ∃ (L : Lb) (sw ho : Addr) (A : PA) (ac : List (Addr × CallR)) (al : List (Addr × LineR)) (Ah : HA) (ps : List PRec) (E : Env0) (p : Int) (lk : Addr) (linked : List Int),
  a = .ref sw ∧ b = .int p ∧ c = .ref lk ∧ PEv K L H sw ho A ac al ∧ HM K L H ho Ah ps ∧ Says ps E ∧ Inv0 E.nums.length ⟨ac.map (·.2), al.map (·.2)⟩ ∧ ac.length ≤ 1000 ∧ At L H 0 lk (.lst (linked.map V.int)) ∧ linked.length ≤ 1000 ∧
  PPost K L H sw ho (mFailed E ⟨ac.map (·.2), al.map (·.2)⟩ p linked) Q
theorem ok_Switch_failed (T : Hd K mg) : OkD P w K mg base d_Switch_failed 6 P_Switch_failed (spFailed K) := by
  obtain ⟨fd, F⟩ := T.says.def_ 28 (d := d_Switch_failed) rfl
  obtain ⟨_, F_Switch_called_in, b_Switch_called_in, G_Switch_called_in⟩ := ok_Switch_called_in (P := P) (w := w) (base := base) T
  obtain ⟨_, F_Switch_not_reached, b_Switch_not_reached, G_Switch_not_reached⟩ := ok_Switch_not_reached (P := P) (w := w) (base := base) T
  refine ⟨fd, F, F.bindsN (ps := P_Switch_failed) (fun _ _ _ _ _ _ us hl => match us, hl with | [_, _, _, _], _ => rfl), F.ok sc_Switch_failed (fun vs H Q E h => sp4_len h) (fun cdv A outer s H vs Q E hr h => ?_)⟩
  have hu := hu_of hr
  obtain ⟨a, b, c, d, rfl, L, sw, ho, B, ac, al, Ah, ps, Ev, p, lk, linked, rfl, rfl, rfl, ⟨N, hnd⟩, M, Sy, I, hlen, hlk, hll, k⟩ := h
  refine ⟨_, PSs.nox (pss_cons (ps_set (i := 4) sc_Switch_failed.nd rfl (Or.inl rfl) (pe_meth (pv 0) T.cl_Switch T.me_Switch_called_in G_Switch_called_in (hr.mono (by decide)) b_Switch_called_in .nil pass0 (pa_cons (pv 1) (pa_cons (pe_tup (pa_cons pe_str pa_nil)) pa_nil)))) (pss_cons (ps_if (pt_cmpR op_isN (pv 4) pe_non (nomark _)) (pss_one (ps_ret (pe_lst pa_nil))) pss_nil) (pss_one (ps_ret (pe_meth (pv 0) T.cl_Switch T.me_Switch_not_reached G_Switch_not_reached (hr.mono (by decide)) b_Switch_not_reached .nil pass0 (pa_cons (pv 4) (pa_cons pe_str (pa_cons pe_int (pa_cons (pv 2) pa_nil))))))))), ?_⟩
  refine ⟨_, rfl, sw, _, _, rfl, N.sw.1, rfl, _, rfl, by show 1 ≤ sizeLine; decide, fun t ht => ⟨_, _, _, rfl, L, sw, ho, B, ac, al, p, t, _, fun r => decide (r.st = .looking), rfl, rfl, rfl, N.same (same_new ht), upd_same, rfl, fun r => in1 r.st .looking, ?_⟩⟩
  have s1 := same_new (o := .tup [.str "looking"]) ht
  have k1 := k.ext s1
  have N1 := N.same s1
  have M1 := M.same s1
  clear k
  cases e : calledA ac p (fun r => decide (r.st = .looking)) with
  | none =>
    have em : mFailed Ev ⟨ac.map (·.2), al.map (·.2)⟩ p linked = ([], ⟨ac.map (·.2), al.map (·.2)⟩) := by
      unfold mFailed
      rcases calledA_none e with q | ⟨r, q, hq⟩
      · simp only [q]
      · simp only [q]
        rw [if_neg (fun z => hq ⟨z.1, decide_eq_true z.2⟩)]
    rw [em] at k1
    refine ⟨_, rfl, rfl, _, rfl, iteT ⟨Nat.zero_le _, fun l hl => ?_⟩⟩
    exact PPost.end_ N1 (new_nil hl) k1
  | some x =>
    obtain ⟨hx, q, h1, h2⟩ := calledA_some e
    have h2 := of_decide_eq_true h2
    obtain ⟨cA, r⟩ := x
    have em : mFailed Ev ⟨ac.map (·.2), al.map (·.2)⟩ p linked = mNotReached Ev ⟨ac.map (·.2), al.map (·.2)⟩ r .ur 18 linked := by
      unfold mFailed
      simp only [q]
      rw [if_pos ⟨h1, h2⟩]
    rw [em] at k1
    have hm : r ∈ ac.map (·.2) := List.mem_map.mpr ⟨_, hx, rfl⟩
    obtain ⟨g, hg, hg2⟩ := I.called r hm
    refine ⟨_, rfl, rfl, _, rfl, iteF ?_⟩
    refine ⟨_, rfl, sw, _, _, rfl, N1.sw.1, rfl, _, rfl, _, rfl, _, _, _, _, _, rfl, L, sw, ho, B, ac, al, Ah, ps, Ev, cA, r, g, .ur, 18, lk, linked, rfl, rfl, rfl, rfl, rfl, ⟨N1, hnd⟩, M1, Sy, hx, hg, hg2, line_none I hm (by rw [h2]; decide), I.hops r hm, hlen, hlk.same s1, hll, fun L' H' A' ac' al' v st N' e1 e2 a _ => ?_⟩
    exact k1 L' H' A' ac' al' v st N' e1 (by rw [mNotReached_ls]; exact e2) a
end
end Mob

set_option Elab.async false
set_option linter.all false
set_option maxRecDepth 100000
set_option maxHeartbeats 4000000
namespace Mob
open PySem PySem.Spec PyProof.Rows L2
section
variable {P : Program} {w : World} {K : PySem.W.Frag} {mg : Str → Option Value} {base : Heap}
/-! ### Switch: step -/
theorem Step.mutFresh {S : Nat → Prop} {L L' : Lb} {H H' : Hp} {a : Addr} {o : HO} (s : Step S L H L' H') (h : H a = none) : Step S L H L' (upd H' a o) where
  lab := s.lab
  keep := fun b u e n => upd_off (s.keep b u e n) (ne_of_none e h)
  tup := fun b xs e => upd_off (s.tup b xs e) (ne_of_none e h)
  dom := fun b u e => by
    obtain ⟨u', h'⟩ := s.dom b u e
    exact ⟨u', upd_off h' (ne_of_none e h)⟩
theorem PN.mut0 {L : Lb} {H : Hp} {sw ho : Addr} {A : PA} {ac : List (Addr × CallR)} {al : List (Addr × LineR)} {a : Addr} {o u : HO} (N : PN K L H sw ho A ac al) (h : At L H 0 a o) (ht : ∀ xs, o ≠ .tup xs) : PN K L (upd H a u) sw ho A ac al :=
  N.keep (S := fun n => n = 0) (Step.write h.1 ht h.2) fun k h1 _ z => by omega
def spStep (K : PySem.W.Frag) : Sp := sp3 fun a b c H Q => ∃ (L : Lb) (sw ho : Addr) (A : PA) (ac : List (Addr × CallR)) (al : List (Addr × LineR)) (Ah : HA) (ps : List PRec) (E : Env0) (lk : Addr) (linked : List Int) (t : Int),
  a = .ref sw ∧ b = .ref lk ∧ c = .int t ∧ PN K L H sw ho A ac al ∧ HM K L H ho Ah ps ∧ Says ps E ∧ Inv0 E.nums.length ⟨ac.map (·.2), al.map (·.2)⟩ ∧ ac.length ≤ 1000 ∧ At L H 0 lk (.lst (linked.map V.int)) ∧ linked.length ≤ 1000 ∧
  PPost K L H sw ho (mStep E ⟨ac.map (·.2), al.map (·.2)⟩ linked t) Q
theorem ok_Switch_step (T : Hd K mg) : OkD P w K mg base d_Switch_step 6 P_Switch_step (spStep K) := by
  obtain ⟨fd, F⟩ := T.says.def_ 29 (d := d_Switch_step) rfl
  obtain ⟨_, F_Switch_not_reached, b_Switch_not_reached, G_Switch_not_reached⟩ := ok_Switch_not_reached (P := P) (w := w) (base := base) T
  obtain ⟨_, F_refuse, b_refuse, G_refuse⟩ := ok_refuse (P := P) (w := w) (base := base) T
  obtain ⟨_, v_RING⟩ := T.v_RING
  refine ⟨fd, F, F.bindsN (ps := P_Switch_step) (fun _ _ _ _ _ _ us hl => match us, hl with | [_, _, _], _ => rfl), F.ok sc_Switch_step (fun vs H Q E h => sp3_len h) (fun cdv A outer s H vs Q E hr h => ?_)⟩
  have hu := hu_of hr
  obtain ⟨a, b, c, rfl, L, sw, ho, B, ac, al, Ah, ps, Ev, lk, linked, tk, rfl, rfl, rfl, N, M, Sy, I, hlen, hlk, hll, k⟩ := h
  refine ⟨_, PSs.nox (pss_cons (ps_set (i := 3) sc_Switch_step.nd rfl (Or.inl rfl) (pe_lst pa_nil)) (pss_cons (ps_for PassesOwn.never rfl (pi_list (pe_callTy call_list_of (by rfl) T.fr_list (by decide +kernel) (pa_cons (pe_fld (pv 0) rfl) pa_nil))) (pg_name (i := 4) sc_Switch_step.nd rfl (Or.inl rfl)) (pss_one (ps_if ((pw_and (pt_cmpR op_in_seq (pe_fld (pv 4) rfl) (pe_tup (pa_cons pe_str (pa_cons pe_str pa_nil))) rfl) (pw_and1 (pt_cmpR op_ge (pe_op op_sub (pv 2) (pe_fld (pv 4) rfl)) (pe_glob (v := .int 16) (by rfl) v_RING ⟨_, rfl⟩) (nomark _))))).pt (pss_cons (ps_set (i := 5) sc_Switch_step.nd rfl (Or.inl rfl) (pe_fld (pv 4) rfl)) (pss_cons (ps_expr (pe_bm PySem.F.plainAttrs_list PySem.F.slot_list_extend PySem.F.type_list_extend mt_extend (pv 3) (pa_cons (pe_meth (pv 0) T.cl_Switch T.me_Switch_not_reached G_Switch_not_reached (hr.mono (by decide)) b_Switch_not_reached .nil pass0 (pa_cons (pv 4) (pa_cons pe_str (pa_cons pe_int (pa_cons (pv 1) pa_nil))))) pa_nil))) (pss_one (ps_expr (pe_bm PySem.F.plainAttrs_list PySem.F.slot_list_extend PySem.F.type_list_extend mt_extend (pv 3) (pa_cons (pe_call G_refuse (hr.mono (by decide)) (by rfl) T.gl_refuse F_refuse.kp b_refuse .nil pass0 (pa_cons (pv 5) (pa_cons pe_int pa_nil))) pa_nil)))))) pss_nil))) (pss_one (ps_ret (pv 3))))), ?_⟩
  refine ⟨Nat.zero_le _, fun la hla => ?_⟩
  refine ⟨_, rfl, _, _, _, _, _, rfl, upd_old N.sw.1 hla, T.cl_Switch, T.na_Switch_rows, rfl, _, _, rfl, .inl (SqL.of (upd_old N.rl.1 hla)), fun lr hlr => ?_⟩
  have hlr0 : H lr = none := upd_free hlr
  have nlr : lr ≠ la := fun z => by rw [z, upd_same] at hlr; cases hlr
  have stb : Step S59 L H (setL L lr 0) (upd H lr (.lst (ac.map fun x => V.ref x.1))) := (Step.relab hlr0).trans (Step.alloc hlr0)
  have hbla : upd H lr (.lst (ac.map fun x => V.ref x.1)) la = none := by rw [upd_ne nlr.symm]; exact hla
  have hblr : At (setL L lr 0) (upd H lr (.lst (ac.map fun x => V.ref x.1))) 0 lr (.lst (ac.map fun x => V.ref x.1)) := ⟨upd_same, setL_same⟩
  have Mb := M.keep stb (fun k q1 q2 z => by unfold S59 at z; omega)
  have hlkb := hlk.keep stb (fun z => absurd z.1 (by decide))
  have no0 : ¬ S59 0 := fun z => absurd z.1 (by decide)
  have no14 : ∀ k, 1 ≤ k → k ≤ 4 → ¬ S59 k := fun k q1 q2 z => by unfold S59 at z; omega
  have key := stepOk_all (E := Ev) rfl I linked tk
  refine ⟨lr, rfl, ⟨_, SqL.of upd_same⟩, for_list (K := K) (a := lr) (xs := ac.map fun x => V.ref x.1)
    (fun i σ H2 => ∃ (L' : Lb) (B' : PA) (ac' : List (Addr × CallR)) (al' : List (Addr × LineR)) (xs : List V) (u v : Option V), σ = [some (.ref sw), some (.ref lk), some (.int tk), some (.ref la), u, v] ∧
      Step S59 (setL L lr 0) (upd H lr (.lst (ac.map fun x => V.ref x.1))) L' H2 ∧ PN K L' H2 sw ho B' ac' al' ∧ At L' H2 0 la (.lst xs) ∧ TDs H2 xs (((ac.map (·.2)).take i).foldl (stepTurn Ev linked tk) ([], ⟨ac.map (·.2), al.map (·.2)⟩)).1 ∧
      ac'.map (·.2) = (((ac.map (·.2)).take i).foldl (stepTurn Ev linked tk) ([], ⟨ac.map (·.2), al.map (·.2)⟩)).2.cs ∧ al'.map (·.2) = (((ac.map (·.2)).take i).foldl (stepTurn Ev linked tk) ([], ⟨ac.map (·.2), al.map (·.2)⟩)).2.ls ∧
      ∀ j, i ≤ j → ∀ y, ac[j]? = some y → y ∈ ac')
    ?_ (fun i σ H2 _ ⟨L', B', ac', al', xs, u, v, e, st, _⟩ => SqL.of (hblr.keep st no0).1) ?_ ?_⟩
  · have h0 : Step (fun _ => False) (setL L lr 0) (upd H lr (.lst (ac.map fun x => V.ref x.1))) (setL (setL L lr 0) la 0) (upd (upd H la (.lst [])) lr (.lst (ac.map fun x => V.ref x.1))) := by
      have e : upd (upd H la (.lst [])) lr (.lst (ac.map fun x => V.ref x.1)) = upd (upd H lr (.lst (ac.map fun x => V.ref x.1))) la (.lst []) := by
        funext b
        unfold upd
        by_cases h1 : b = lr
        · rw [if_pos h1, if_neg (fun z => nlr (h1.symm.trans z)), if_pos h1]
        · rw [if_neg h1, if_neg h1]
      rw [e]
      exact (Step.relab hbla).trans (Step.alloc hbla)
    have N0 : PN K (setL L lr 0) (upd H lr (.lst (ac.map fun x => V.ref x.1))) sw ho B ac al := N.keep (S := fun _ => False) ((Step.relab hlr0).trans (Step.alloc hlr0)) fun _ _ _ z => z
    refine ⟨_, B, ac, al, [], none, none, rfl, h0.mono fun _ z => z.elim, N0.keep h0 fun _ _ _ z => z, ⟨upd_off upd_same nlr.symm, setL_same⟩, .nil, rfl, rfl, fun _ _ y hy => List.mem_of_getElem? hy⟩
  · rintro i x σ H2 hi ⟨L', B', ac', al', xs, u, v, rfl, st, N', hla2, td, e1, e2, rest⟩
    obtain ⟨y, hy, rfl⟩ := map_at hi
    have hil := (List.getElem?_eq_some_iff.mp hy).1
    have hyc : (ac.map (·.2))[i]? = some y.2 := by rw [List.getElem?_map, hy]; rfl
    have hm := rest i (Nat.le_refl _) y hy
    have ok := key i (by show i ≤ (ac.map (·.2)).length; rw [List.length_map]; omega)
    have ef := foldl_take (f := stepTurn Ev linked tk) (b := ([], ⟨ac.map (·.2), al.map (·.2)⟩)) hyc
    generalize han : ((ac.map (·.2)).take i).foldl (stepTurn Ev linked tk) ([], ⟨ac.map (·.2), al.map (·.2)⟩) = an at td e1 e2 ok ef
    obtain ⟨cA, r⟩ := y
    obtain ⟨dc, hc⟩ := N'.calls _ hm
    refine ⟨_, rfl, _, _, _, _, _, rfl, hc.1, T.cl_Call, T.na_Call_stage, rfl, by show 2 ≤ sizeLine; decide, fun tp htp => ⟨_, _, rfl, .inr (SqT.of upd_same), rfl, rfl, _, rfl, ?_⟩⟩
    show (if inV (.str r.st.s) [.str Stg.offered.s, .str Stg.ringing.s] = true then _ else _)
    rw [in2]
    have s3 := same_new (o := .tup [.str "offered", .str "ringing"]) htp
    have N3 := N'.same s3
    have st3 := st.trans (Step.same s3)
    have hla3 := hla2.same s3
    have td3 := td.same s3
    have hc3 := s3 _ _ hc.1
    have skip : dueB tk r = false → ∃ (L' : Lb) (B' : PA) (ac' : List (Addr × CallR)) (al' : List (Addr × LineR)) (xs : List V) (u v' : Option V), [some (V.ref sw), some (.ref lk), some (.int tk), some (.ref la), some (.ref cA), v] = [some (.ref sw), some (.ref lk), some (.int tk), some (.ref la), u, v'] ∧
        Step S59 (setL L lr 0) (upd H lr (.lst (ac.map fun x => V.ref x.1))) L' (upd H2 tp (.tup [.str "offered", .str "ringing"])) ∧ PN K L' (upd H2 tp (.tup [.str "offered", .str "ringing"])) sw ho B' ac' al' ∧ At L' (upd H2 tp (.tup [.str "offered", .str "ringing"])) 0 la (.lst xs) ∧
        TDs (upd H2 tp (.tup [.str "offered", .str "ringing"])) xs (((ac.map (·.2)).take (i + 1)).foldl (stepTurn Ev linked tk) ([], ⟨ac.map (·.2), al.map (·.2)⟩)).1 ∧
        ac'.map (·.2) = (((ac.map (·.2)).take (i + 1)).foldl (stepTurn Ev linked tk) ([], ⟨ac.map (·.2), al.map (·.2)⟩)).2.cs ∧ al'.map (·.2) = (((ac.map (·.2)).take (i + 1)).foldl (stepTurn Ev linked tk) ([], ⟨ac.map (·.2), al.map (·.2)⟩)).2.ls ∧
        ∀ j, i + 1 ≤ j → ∀ y, ac[j]? = some y → y ∈ ac' := fun hd => by
      have et : stepTurn Ev linked tk an r = an := by unfold stepTurn; rw [if_neg (by rw [hd]; exact Bool.false_ne_true)]
      rw [ef, et]
      exact ⟨L', B', ac', al', xs, _, _, rfl, st3, N3, hla3, td3, e1, e2, fun j hj y hy => rest j (by omega) y hy⟩
    cases h1 : (decide (r.st = .offered) || decide (r.st = .ringing)) with
    | false =>
      refine iteF (iteF ?_)
      exact skip (by unfold dueB; rw [h1]; rfl)
    | true =>
      refine iteT ⟨_, rfl, _, rfl, _, _, _, _, _, rfl, hc3, T.cl_Call, T.na_Call_since, rfl, _, _, rfl, rfl, _, _, rfl, rfl, _, rfl, ?_⟩
      show (if decide (16 ≤ tk - r.since) = true then _ else _)
      cases h2 : decide (16 ≤ tk - r.since) with
      | false =>
        refine iteF ?_
        exact skip (by unfold dueB; rw [h1, h2]; rfl)
      | true =>
        have hd : dueB tk r = true := by unfold dueB; rw [h1, h2]; rfl
        have et : stepTurn Ev linked tk an r = (an.1 ++ (mNotReached Ev an.2 r .un 19 linked).1 ++ refuseD (r.called.getD 0) 19, (mNotReached Ev an.2 r .un 19 linked).2) := by unfold stepTurn; rw [if_pos hd]
        have hrm : r ∈ an.2.cs := by rw [← e1]; exact List.mem_map.mpr ⟨_, hm, rfl⟩
        obtain ⟨g, hg, hgv⟩ := ok.inv.called r hrm
        have ean : (⟨ac'.map (·.2), al'.map (·.2)⟩ : Net) = an.2 := by rw [e1, e2]
        have lenA : ac'.length ≤ 1000 := by
          have q := ok.len
          rw [← e1, List.length_map] at q
          have q2 : ac'.length ≤ (ac.map (·.2)).length := q
          rw [List.length_map] at q2
          omega
        refine iteT ⟨_, rfl, _, _, _, _, _, rfl, hc3, T.cl_Call, T.na_Call_called, rfl, ?_⟩
        refine ⟨_, rfl, .inl ⟨rfl, _, SqL.of hla3.1⟩, _, rfl, sw, _, _, rfl, N3.sw.1, rfl, _, rfl, _, rfl, _, _, _, _, _, rfl, L', sw, ho, B', ac', al', Ah, ps, Ev, cA, r, g, .un, 19, lk, linked, rfl, rfl, rfl, rfl, rfl, ⟨N3, by rw [e1]; exact ok.inv.nd⟩, Mb.keep st3 no14, Sy, hm, hg, hgv, line_none ok.inv hrm (dueB_st hd), ok.inv.hops r hrm, lenA, hlkb.keep st3 no0, hll, fun L4 H4 B4 ac4 al4 w st4 N4 f1 f2 a4 f3 => ?_⟩
        rw [ean] at f1 a4
        obtain ⟨lw, ws, rfl, aw, tw⟩ := a4
        have hla4 := hla3.keep st4 no0
        have td4 := td3.step st4
        have st04 := st3.trans st4
        have lens := ok.acts
        have lx : xs.length ≤ 4 * i := by rw [td.length]; exact lens
        have lw2 : ws.length ≤ 2 := by rw [tw.length]; exact (notR_len _ _ _ _ _ _).2
        refine ⟨la, lw, xs, ws, rfl, rfl, hla4.1, aw.1, Nat.le_trans (show xs.length + ws.length ≤ 5000 by omega) (by decide), ?_⟩
        have tup5 : ∀ b zs, H4 b = some (.tup zs) → upd H4 la (.lst (xs ++ ws)) b = some (.tup zs) := fun b zs q => upd_off q (ne_of q hla4.1 (by intro z; cases z))
        have td5 := TDs.map tup5 _ _ (td4.append tw)
        have N5 := N4.mut0 (u := .lst (xs ++ ws)) hla4 (by intro _ z; cases z)
        have st5 := st04.mutFresh (o := .lst (xs ++ ws)) hbla
        refine ⟨_, rfl, .inl ⟨rfl, _, SqL.of upd_same⟩, _, rfl, _, _, rfl, g, 19, by show oI r.called = _; rw [hg]; rfl, rfl, fun v6 H6 nw => ?_⟩
        obtain ⟨s6, l6, zs, rfl, hl6, hl6', t6⟩ := nw
        have hla6 : H6 la = some (.lst (xs ++ ws)) := s6 _ _ upd_same
        refine ⟨la, l6, _, _, rfl, rfl, hla6, hl6', ?_, ?_⟩
        · rw [List.length_append, t6.length]
          show xs.length + ws.length + 2 ≤ sizeLine
          exact Nat.le_trans (show xs.length + ws.length + 2 ≤ 5000 by omega) (by decide)
        have N6 := N5.same s6
        have td6 := td5.same s6
        have tup7 : ∀ b qs, H6 b = some (.tup qs) → upd H6 la (.lst (xs ++ ws ++ zs)) b = some (.tup qs) := fun b qs q => upd_off q (ne_of q hla6 (by intro z; cases z))
        have hla60 : At L4 H6 0 la (.lst (xs ++ ws)) := ⟨hla6, hla4.2⟩
        have N7 := N6.mut0 (u := .lst (xs ++ ws ++ zs)) hla60 (by intro _ z; cases z)
        have st7 := (st5.trans (Step.same s6)).mutFresh (o := .lst (xs ++ ws ++ zs)) hbla
        refine ⟨L4, B4, ac4, al4, xs ++ ws ++ zs, _, _, rfl, st7, N7, ⟨upd_same, hla4.2⟩, ?_, ?_, ?_, ?_⟩
        · rw [ef, et]
          show TDs _ _ (an.1 ++ _ ++ refuseD (r.called.getD 0) 19)
          rw [hg]
          exact TDs.map tup7 _ _ (td6.append t6)
        · rw [ef, et]
          exact f1
        · rw [ef, et]
          show al4.map (·.2) = (mNotReached Ev an.2 r .un 19 linked).2.ls
          rw [mNotReached_ls, f2]
          exact e2
        · intro j hj y hyj
          refine f3 y (rest j (by omega) y hyj) fun q => ?_
          have hnd := callers_nd I.nd
          have q1 : ((ac.map (·.2)).map CallR.caller)[i]? = some r.caller := by rw [List.getElem?_map, hyc]; rfl
          have q2 : ((ac.map (·.2)).map CallR.caller)[j]? = some r.caller := by rw [List.getElem?_map, List.getElem?_map, hyj, ← q]; rfl
          have := nd_ix hnd q1 q2
          omega
  · rintro σ H2 ⟨L', B', ac', al', xs, u, v, rfl, st, N', hla2, td, e1, e2, rest⟩
    have el : (ac.map (·.2)).take (ac.map fun x => V.ref x.1).length = ac.map (·.2) := List.take_of_length_le (by rw [List.length_map, List.length_map]; exact Nat.le_refl _)
    rw [el] at td e1 e2
    refine ⟨_, rfl, ?_⟩
    exact k L' H2 B' ac' al' _ (stb.trans st) N' e1 e2 ⟨la, xs, rfl, hla2, td⟩
end
end Mob

set_option Elab.async false
set_option linter.all false
set_option maxRecDepth 100000
set_option maxHeartbeats 4000000
namespace Mob
open PySem PySem.Spec PyProof.Rows L2
/-! ### the law's world -/
structure WA where
  nl : Addr
  fl : Addr
  cl : Addr
  ll : Addr
def wdKvs (A : WA) : List (Key × V) := [(Sum.inr "numbers", .ref A.nl), (Sum.inr "facts", .ref A.fl), (Sum.inr "calls", .ref A.cl), (Sum.inr "lines", .ref A.ll)]
def callKvs (r : CallR) : List (Key × V) := [(Sum.inr "caller", .int r.caller), (Sum.inr "called", oI r.called), (Sum.inr "state", .str r.st.s), (Sum.inr "hops", .int r.hops), (Sum.inr "since", .int r.since), (Sum.inr "line", oN r.line)]
def factKvs (f : Fct) : List (Key × V) := [(Sum.inr "always", oS f.al), (Sum.inr "busy", oS f.bu), (Sum.inr "unanswered", oS f.un), (Sum.inr "unreachable", oS f.ur), (Sum.inr "area", oI f.ar)]
section
variable {H : Hp} {a : Addr} {r : CallR} {f : Fct} {A : WA}
theorem dgCaller (h : H a = some (.dK (callKvs r))) : DGet H a (.str "caller") (some (.int r.caller)) := DGet.k (k := Sum.inr "caller") h
theorem dgCalled (h : H a = some (.dK (callKvs r))) : DGet H a (.str "called") (some (oI r.called)) := DGet.k (k := Sum.inr "called") h
theorem dgState (h : H a = some (.dK (callKvs r))) : DGet H a (.str "state") (some (.str r.st.s)) := DGet.k (k := Sum.inr "state") h
theorem dgHops (h : H a = some (.dK (callKvs r))) : DGet H a (.str "hops") (some (.int r.hops)) := DGet.k (k := Sum.inr "hops") h
theorem dgSince (h : H a = some (.dK (callKvs r))) : DGet H a (.str "since") (some (.int r.since)) := DGet.k (k := Sum.inr "since") h
theorem dgLine (h : H a = some (.dK (callKvs r))) : DGet H a (.str "line") (some (oN r.line)) := DGet.k (k := Sum.inr "line") h
theorem dgNumbers (h : H a = some (.dK (wdKvs A))) : DGet H a (.str "numbers") (some (.ref A.nl)) := DGet.k (k := Sum.inr "numbers") h
theorem dgFacts (h : H a = some (.dK (wdKvs A))) : DGet H a (.str "facts") (some (.ref A.fl)) := DGet.k (k := Sum.inr "facts") h
theorem dgCalls (h : H a = some (.dK (wdKvs A))) : DGet H a (.str "calls") (some (.ref A.cl)) := DGet.k (k := Sum.inr "calls") h
theorem dgLines (h : H a = some (.dK (wdKvs A))) : DGet H a (.str "lines") (some (.ref A.ll)) := DGet.k (k := Sum.inr "lines") h
theorem dgArea (h : H a = some (.dK (factKvs f))) : DGet H a (.str "area") (some (oI f.ar)) := DGet.k (k := Sum.inr "area") h
theorem dgKd (h : H a = some (.dK (factKvs f))) (k : Kd) : DGet H a (.str k.s) (some (oS (f.fw k))) := by
  have e : valV (factKvs f) (Sum.inr k.s) = some (oS (f.fw k)) := by cases k <;> rfl
  rw [← e]
  exact DGet.k (k := Sum.inr k.s) h
theorem len4 : 4 < sizeLine := by decide
theorem len5 : 5 < sizeLine := by decide
theorem len6 : 6 < sizeLine := by decide
theorem dpState (h : H a = some (.dK (callKvs r))) (s : Stg) : DPut H a (.str "state") (.str s.s) (upd H a (.dK (callKvs { r with st := s }))) := DPut.k (k := Sum.inr "state") h len6
theorem dpSince (h : H a = some (.dK (callKvs r))) (t : Int) : DPut H a (.str "since") (.int t) (upd H a (.dK (callKvs { r with since := t }))) := DPut.k (k := Sum.inr "since") h len6
theorem dpCalled (h : H a = some (.dK (callKvs r))) (o : Option Int) : DPut H a (.str "called") (oI o) (upd H a (.dK (callKvs { r with called := o }))) := DPut.k (k := Sum.inr "called") h len6
theorem dpHops (h : H a = some (.dK (callKvs r))) (t : Int) : DPut H a (.str "hops") (.int t) (upd H a (.dK (callKvs { r with hops := t }))) := DPut.k (k := Sum.inr "hops") h len6
theorem dpLine (h : H a = some (.dK (callKvs r))) (i : Nat) : DPut H a (.str "line") (.int (i : Int)) (upd H a (.dK (callKvs { r with line := some i }))) := DPut.k (k := Sum.inr "line") h len6
theorem dpCalls (h : H a = some (.dK (wdKvs A))) (c : Addr) : DPut H a (.str "calls") (.ref c) (upd H a (.dK (wdKvs { A with cl := c }))) := DPut.k (k := Sum.inr "calls") h len4
end
structure WN (L : Lb) (H : Hp) (wd : Addr) (A : WA) (nums : List Str) (fr : List (Addr × Fct)) (wc : List (Addr × CallR)) (wl : List (Addr × LineR)) : Prop where
  wd : At L H 11 wd (.dK (wdKvs A))
  nl : At L H 12 A.nl (.lst (nums.map V.str))
  fl : At L H 13 A.fl (.lst (fr.map fun x => V.ref x.1))
  facts : ∀ x ∈ fr, At L H 14 x.1 (.dK (factKvs x.2))
  cl : At L H 15 A.cl (.lst (wc.map fun x => V.ref x.1))
  ll : At L H 16 A.ll (.lst (wl.map fun x => V.ref x.1))
  calls : ∀ x ∈ wc, At L H 17 x.1 (.dK (callKvs x.2))
  lines : ∀ x ∈ wl, H x.1 = some (.tup (lineV x.2))
  nd : (wc.map (·.1)).Nodup
  ndf : (fr.map (·.1)).Nodup
def S17 (n : Nat) : Prop := 11 ≤ n ∧ n ≤ 17
section
variable {S : Nat → Prop} {L L' : Lb} {H H1 H' : Hp} {wd : Addr} {A : WA} {nums : List Str} {fr : List (Addr × Fct)} {wc : List (Addr × CallR)} {wl : List (Addr × LineR)}
theorem WN.keep (N : WN L H wd A nums fr wc wl) (s : Step S L H L' H') (n : ∀ k, 11 ≤ k → k ≤ 17 → ¬ S k) : WN L' H' wd A nums fr wc wl where
  wd := N.wd.keep s (n 11 (by decide) (by decide))
  nl := N.nl.keep s (n 12 (by decide) (by decide))
  fl := N.fl.keep s (n 13 (by decide) (by decide))
  facts := fun x hx => (N.facts x hx).keep s (n 14 (by decide) (by decide))
  cl := N.cl.keep s (n 15 (by decide) (by decide))
  ll := N.ll.keep s (n 16 (by decide) (by decide))
  calls := fun x hx => (N.calls x hx).keep s (n 17 (by decide) (by decide))
  lines := fun x hx => s.tup _ _ (N.lines x hx)
  nd := N.nd
  ndf := N.ndf
theorem WN.same (N : WN L H wd A nums fr wc wl) (s : Same H H') : WN L H' wd A nums fr wc wl := N.keep (S := fun _ => False) (Step.same s) fun _ _ _ h => h
theorem WN.setCall (N : WN L H wd A nums fr wc wl) {c : Addr} {r r' : CallR} (hx : (c, r) ∈ wc) : WN L (upd H c (.dK (callKvs r'))) wd A nums fr (setA wc c r') wl := by
  have hc := N.calls _ hx
  refine ⟨N.wd.off hc.2 (by decide), N.nl.off hc.2 (by decide), N.fl.off hc.2 (by decide), fun x hm => (N.facts x hm).off hc.2 (by decide), by rw [setA_ref]; exact N.cl.off hc.2 (by decide), N.ll.off hc.2 (by decide), fun x hm => ?_, fun x hm => ?_, by rw [setA_fst]; exact N.nd, N.ndf⟩
  · rcases mem_setA hm with ⟨h1, h2⟩ | rfl
    · exact (N.calls x h2).offA h1
    · exact At.at hc.2
  · have := N.lines x hm
    exact upd_off this (ne_of this hc.1 (by intro z; cases z))
theorem Step.wcall (N : WN L H wd A nums fr wc wl) {c : Addr} {r r' : CallR} (hx : (c, r) ∈ wc) (hS : S 17) : Step S L H L (upd H c (.dK (callKvs r'))) := by
  have hc := N.calls _ hx
  exact Step.write hc.1 (by intro _ z; cases z) (by rw [hc.2]; exact hS)
/-- a new call -/
theorem WN.add (N : WN L H wd A nums fr wc wl) (s : Same H H1) {x : Addr} {r : CallR} (hx : H x = none) (hx' : H1 x = some (.dK (callKvs r))) :
    WN (setL L x 17) (upd H1 A.cl (.lst ((wc.map fun x => V.ref x.1) ++ [.ref x]))) wd A nums fr (wc ++ [(x, r)]) wl := by
  have lab : ∀ {b o}, H b = some o → setL L x 17 b = L b := fun {b o} e => setL_ne (ne_of_none e hx)
  have mv : ∀ {k b o}, At L H k b o → k ≠ 15 → At (setL L x 17) (upd H1 A.cl (.lst ((wc.map fun x => V.ref x.1) ++ [.ref x]))) k b o := fun {k b o} e n =>
    ⟨by rw [upd_ne (e.ne N.cl.2 n)]; exact s _ _ e.1, by rw [lab e.1]; exact e.2⟩
  have nxr : x ≠ A.cl := (ne_of_none N.cl.1 hx).symm
  refine ⟨mv N.wd (by decide), mv N.nl (by decide), mv N.fl (by decide), fun y hy => mv (N.facts y hy) (by decide), ⟨by rw [List.map_append]; exact upd_same, by rw [lab N.cl.1]; exact N.cl.2⟩, mv N.ll (by decide), fun y hy => ?_, fun y hy => ?_, ?_, N.ndf⟩
  · rcases List.mem_append.mp hy with hy | hy
    · exact mv (N.calls y hy) (by decide)
    · rw [List.mem_singleton.mp hy]
      exact ⟨by rw [upd_ne nxr]; exact hx', setL_same⟩
  · have h := N.lines y hy
    exact upd_off (s _ _ h) (ne_of h N.cl.1 (by intro z; cases z))
  · rw [List.map_append, List.nodup_append]
    refine ⟨N.nd, by simp, fun a ha b hb => ?_⟩
    obtain ⟨y, hy, rfl⟩ := List.mem_map.mp ha
    rw [List.mem_singleton.mp hb]
    exact ne_of_none (N.calls y hy).1 hx
theorem Step.waddCall (N : WN L H wd A nums fr wc wl) (s : Same H H1) {x : Addr} (hx : H x = none) {o : HO} (hS : S 15) : Step S L H (setL L x 17) (upd H1 A.cl o) :=
  ((Step.relab hx).trans (Step.same s)).trans (Step.write (s _ _ N.cl.1) (by intro _ z; cases z) (by rw [setL_ne (ne_of_none N.cl.1 hx), N.cl.2]; exact hS))
/-- a new line; a line ends -/
theorem WN.addLine (N : WN L H wd A nums fr wc wl) {t : Addr} {l : LineR} (ht : H t = none) : WN L (upd (upd H t (.tup (lineV l))) A.ll (.lst ((wl.map fun x => V.ref x.1) ++ [.ref t]))) wd A nums fr wc (wl ++ [(t, l)]) := by
  have mv : ∀ {k b o}, At L H k b o → k ≠ 16 → At L (upd (upd H t (.tup (lineV l))) A.ll (.lst ((wl.map fun x => V.ref x.1) ++ [.ref t]))) k b o := fun {k b o} e n =>
    ⟨by rw [upd_ne (e.ne N.ll.2 n)]; exact upd_old e.1 ht, e.2⟩
  have ntb : t ≠ A.ll := (ne_of_none N.ll.1 ht).symm
  refine ⟨mv N.wd (by decide), mv N.nl (by decide), mv N.fl (by decide), fun y hy => mv (N.facts y hy) (by decide), mv N.cl (by decide), ⟨by rw [List.map_append]; exact upd_same, N.ll.2⟩, fun y hy => mv (N.calls y hy) (by decide), fun y hy => ?_, N.nd, N.ndf⟩
  rcases List.mem_append.mp hy with hy | hy
  · have h := N.lines y hy
    exact upd_off (upd_old h ht) (ne_of h N.ll.1 (by intro z; cases z))
  · rw [List.mem_singleton.mp hy]
    exact upd_off upd_same ntb
theorem WN.endLine (N : WN L H wd A nums fr wc wl) {t tp : Addr} {i : Nat} {l l' : LineR} (ht : H t = none) (hi : wl[i]? = some (tp, l)) :
    WN L (upd (upd H t (.tup (lineV l'))) A.ll (.lst ((wl.map fun x => V.ref x.1).set i (.ref t)))) wd A nums fr wc (wl.set i (t, l')) := by
  have mv : ∀ {k b o}, At L H k b o → k ≠ 16 → At L (upd (upd H t (.tup (lineV l'))) A.ll (.lst ((wl.map fun x => V.ref x.1).set i (.ref t)))) k b o := fun {k b o} e n =>
    ⟨by rw [upd_ne (e.ne N.ll.2 n)]; exact upd_old e.1 ht, e.2⟩
  have ntb : t ≠ A.ll := (ne_of_none N.ll.1 ht).symm
  refine ⟨mv N.wd (by decide), mv N.nl (by decide), mv N.fl (by decide), fun y hy => mv (N.facts y hy) (by decide), mv N.cl (by decide), ⟨by rw [List.map_set]; exact upd_same, N.ll.2⟩, fun y hy => mv (N.calls y hy) (by decide), fun y hy => ?_, N.nd, N.ndf⟩
  rcases mem_set_at hi hy with rfl | ⟨j, _, hj⟩
  · exact upd_off upd_same ntb
  · have h := N.lines y (List.mem_of_getElem? hj)
    exact upd_off (upd_old h ht) (ne_of h N.ll.1 (by intro z; cases z))
theorem Step.wbook (N : WN L H wd A nums fr wc wl) {t : Addr} {o u : HO} (ht : H t = none) (hS : S 16) : Step S L H L (upd (upd H t o) A.ll u) :=
  (Step.alloc ht).trans (Step.write (upd_old N.ll.1 ht) (by intro _ z; cases z) (by rw [N.ll.2]; exact hS))
/-- the calls in a new list -/
theorem WN.setRows (N : WN L H wd A nums fr wc wl) (s : Same H H1) {D : Addr} {wc' : List (Addr × CallR)} (hD : H D = none) (hD' : H1 D = some (.lst (wc'.map fun x => V.ref x.1))) (sub : wc'.Sublist wc) :
    WN (setL L D 15) (upd H1 wd (.dK (wdKvs { A with cl := D }))) wd { A with cl := D } nums fr wc' wl := by
  have lab : ∀ {b o}, H b = some o → setL L D 15 b = L b := fun {b o} e => setL_ne (ne_of_none e hD)
  have mv : ∀ {k b o}, At L H k b o → k ≠ 11 → At (setL L D 15) (upd H1 wd (.dK (wdKvs { A with cl := D }))) k b o := fun {k b o} e n =>
    ⟨by rw [upd_ne (e.ne N.wd.2 n)]; exact s _ _ e.1, by rw [lab e.1]; exact e.2⟩
  have nDs : D ≠ wd := (ne_of_none N.wd.1 hD).symm
  refine ⟨⟨upd_same, by rw [lab N.wd.1]; exact N.wd.2⟩, mv N.nl (by decide), mv N.fl (by decide), fun y hy => mv (N.facts y hy) (by decide), ⟨upd_off hD' nDs, setL_same⟩, mv N.ll (by decide), fun y hy => mv (N.calls y (sub.subset hy)) (by decide), fun y hy => ?_, N.nd.sublist (sub.map _), N.ndf⟩
  have h := N.lines y hy
  exact upd_off (s _ _ h) (ne_of h N.wd.1 (by intro z; cases z))
theorem Step.wrows (N : WN L H wd A nums fr wc wl) (s : Same H H1) {D : Addr} (hD : H D = none) {o : HO} (hS : S 11) : Step S L H (setL L D 15) (upd H1 wd o) :=
  ((Step.relab hD).trans (Step.same s)).trans (Step.write (s _ _ N.wd.1) (by intro _ z; cases z) (by rw [setL_ne (ne_of_none N.wd.1 hD), N.wd.2]; exact hS))
end
/-- an event of the law's world -/
def WPost (L : Lb) (H : Hp) (wd : Addr) (nums : List Str) (fr : List (Addr × Fct)) (f : List PyData × Net) (Q : VK) : Prop :=
  ∀ (L' : Lb) (H' : Hp) (A' : WA) (wc' : List (Addr × CallR)) (wl' : List (Addr × LineR)) (v : V), Step S17 L H L' H' → WN L' H' wd A' nums fr wc' wl' → wc'.map (·.2) = f.2.cs → wl'.map (·.2) = f.2.ls → AL L' H' 0 v f.1 → Q v H'
section
variable {L L' : Lb} {H H1 H' : Hp} {wd : Addr} {A : WA} {nums : List Str} {fr : List (Addr × Fct)} {wc : List (Addr × CallR)} {wl : List (Addr × LineR)} {Q : VK} {f : List PyData × Net} {v : V} {ds : List PyData}
theorem WPost.after (s : Step S17 L H L' H1) (k : WPost L H wd nums fr f Q) : WPost L' H1 wd nums fr f Q :=
  fun L2 H2 A' ac' al' v st N e1 e2 a => k L2 H2 A' ac' al' v (s.trans st) N e1 e2 a
theorem WPost.ext (s : Same H H1) (k : WPost L H wd nums fr f Q) : WPost L H1 wd nums fr f Q := k.after (Step.same s)
theorem WPost.end_ (N : WN L H1 wd A nums fr wc wl) (h : New H1 H' v ds) (k : WPost L H1 wd nums fr (ds, ⟨wc.map (·.2), wl.map (·.2)⟩) Q) : Q v H' := by
  obtain ⟨L', s, a, _⟩ := New.al (L := L) h (fun _ => False)
  exact k L' H' A wc wl v (s.mono fun _ z => z.elim) (N.keep s fun _ _ _ z => z) rfl rfl a
theorem WPost.call (N : WN L H wd A nums fr wc wl) {c : Addr} {r r' : CallR} (hx : (c, r) ∈ wc) (hnd : (sidesI (wc.map (·.2))).Nodup) (h : New (upd H c (.dK (callKvs r'))) H' v ds)
    (k : WPost L H wd nums fr (ds, ⟨updC (wc.map (·.2)) r.caller r', wl.map (·.2)⟩) Q) : Q v H' := by
  have N1 := N.setCall (r' := r') hx
  refine WPost.end_ N1 h ?_
  rw [setA_snd hnd N.nd hx]
  exact k.after (Step.wcall N hx ⟨by decide, by decide⟩)
end
end Mob

set_option Elab.async false
set_option linter.all false
set_option maxRecDepth 100000
set_option maxHeartbeats 4000000
namespace Mob
open PySem PySem.Spec PyProof.Rows L2
section
variable {P : Program} {w : World} {K : PySem.W.Frag} {mg : Str → Option Value} {base : Heap}
/-! ### the law's questions -/
def spLFind : Sp := sp2 fun a b H Q => ∃ (L : Lb) (wd : Addr) (A : WA) (nums : List Str) (fr : List (Addr × Fct)) (wc : List (Addr × CallR)) (wl : List (Addr × LineR)) (p : Int), a = .ref A.cl ∧ b = .int p ∧ WN L H wd A nums fr wc wl ∧ Q (refO (findA wc p)) H
theorem ok_law_find (T : Hd K mg) : OkD P w K mg base d_law_find 1 P_law_find (spLFind) := by
  obtain ⟨fd, F⟩ := T.says.def_ 47 (d := d_law_find) rfl
  refine ⟨fd, F, F.bindsN (ps := P_law_find) (fun _ _ _ _ _ _ us hl => match us, hl with | [_, _], _ => rfl), F.ok sc_law_find (fun vs H Q E h => sp2_len h) (fun cdv A outer s H vs Q E hr h => ?_)⟩
  have hu := hu_of hr
  obtain ⟨a, b, rfl, L, wd, B, nums, fr, wc, wl, p, rfl, rfl, N, k⟩ := h
  refine ⟨_, PSs.nox (pss_cons (ps_for PassesOwn.never rfl (pi_list (pv 0)) (pg_name (i := 2) sc_law_find.nd rfl (Or.inl rfl)) (pss_one (ps_if ((pw_or (pt_cmpR op_eq (pv 1) (pe_dget hu (pv 2) pe_str (fun _ _ => rfl)) (nomark _)) (pw_or1 (pt_cmpR op_eq (pv 1) (pe_dget hu (pv 2) pe_str (fun _ _ => rfl)) (nomark _))))).pt (pss_one (ps_ret (pv 2))) pss_nil))) (pss_one (ps_ret pe_non))), ?_⟩
  refine ⟨_, rfl, B.cl, rfl, ⟨_, SqL.of N.cl.1⟩, for_list (K := K) (a := B.cl) (xs := wc.map fun x => V.ref x.1) (fun i σ H2 => H2 = H ∧ ∃ v, σ = [some (.ref B.cl), some (.int p), v] ∧ ∀ y ∈ wc.take i, sideB p y.2 = false)
    ⟨rfl, none, rfl, by simp⟩ (fun i σ H2 _ h => by rw [h.1]; exact SqL.of N.cl.1) ?_ ?_⟩
  · rintro i x σ H2 hi ⟨rfl, v, rfl, hn⟩
    obtain ⟨y, hy, rfl⟩ := map_at hi
    have hc := N.calls y (List.mem_of_getElem? hy)
    have hs := side_dec p y.2
    refine ⟨_, rfl, _, rfl, _, _, rfl, dgCaller hc.1, rfl, _, rfl, ?_⟩
    refine ite2 (fun h1 => iteT ?_) (fun h1 => ?_)
    · rw [h1, Bool.true_or] at hs
      refine ⟨_, rfl, ?_⟩
      have e : findA wc p = some y := find_hit (f := fun x : Addr × CallR => sideB p x.2) hy hn hs
      rw [e] at k
      exact k
    · rw [eq_false_of_ne_true h1, Bool.false_or] at hs
      refine ⟨_, rfl, _, rfl, _, _, rfl, dgCalled hc.1, scal_oI _ _, _, rfl, ?_⟩
      refine ite2 (fun h2 => ?_) (fun h2 => ?_)
      · rw [h2] at hs
        refine ⟨_, rfl, ?_⟩
        have e : findA wc p = some y := find_hit (f := fun x : Addr × CallR => sideB p x.2) hy hn hs
        rw [e] at k
        exact k
      · rw [eq_false_of_ne_true h2] at hs
        exact ⟨rfl, _, rfl, find_step (f := fun x : Addr × CallR => sideB p x.2) hy hn hs⟩
  · rintro σ H2 ⟨rfl, v, rfl, hn⟩
    have e : findA wc p = none := find_out (f := fun x : Addr × CallR => sideB p x.2) (by simpa using hn)
    rw [e] at k
    exact k
def spLLeg : Sp := sp2 fun a b H Q => ∃ (L : Lb) (wd : Addr) (A : WA) (nums : List Str) (fr : List (Addr × Fct)) (wc : List (Addr × CallR)) (wl : List (Addr × LineR)) (p : Int), a = .ref A.cl ∧ b = .int p ∧ WN L H wd A nums fr wc wl ∧ Q (.bl (legB (wc.map (·.2)) p)) H
theorem ok_law_leg (T : Hd K mg) : OkD P w K mg base d_law_leg 2 P_law_leg (spLLeg) := by
  obtain ⟨fd, F⟩ := T.says.def_ 48 (d := d_law_leg) rfl
  obtain ⟨_, F_law_find, b_law_find, G_law_find⟩ := ok_law_find (P := P) (w := w) (base := base) T
  refine ⟨fd, F, F.bindsN (ps := P_law_leg) (fun _ _ _ _ _ _ us hl => match us, hl with | [_, _], _ => rfl), F.ok sc_law_leg (fun vs H Q E h => sp2_len h) (fun cdv A outer s H vs Q E hr h => ?_)⟩
  have hu := hu_of hr
  obtain ⟨a, b, rfl, L, wd, B, nums, fr, wc, wl, p, rfl, rfl, N, k⟩ := h
  refine ⟨_, PSs.nox (pss_cons (ps_set (i := 2) sc_law_leg.nd rfl (Or.inl rfl) (pe_call G_law_find (hr.mono (by decide)) (by rfl) T.gl_law_find F_law_find.kp b_law_find .nil pass0 (pa_cons (pv 0) (pa_cons (pv 1) pa_nil)))) (pss_one (ps_ret (pe_and (pe_cmpR op_notN (pv 2) pe_non (nomark _)) (pe_one (pe_or (pe_cmpR op_eq (pv 1) (pe_dget hu (pv 2) pe_str (fun _ _ => rfl)) (nomark _)) (pe_one (pe_cmpR op_ne (pe_dget hu (pv 2) pe_str (fun _ _ => rfl)) pe_str (nomark _))))))))), ?_⟩
  refine ⟨_, rfl, _, rfl, _, _, rfl, L, wd, B, nums, fr, wc, wl, p, rfl, rfl, N, ?_⟩
  cases e : findA wc p with
  | none =>
    rw [legB_none e] at k
    exact ⟨_, rfl, rfl, _, rfl, iteF k⟩
  | some x =>
    have hc := N.calls x (findA_mem e)
    rw [legB_some e] at k
    refine ⟨_, rfl, rfl, _, rfl, ?_⟩
    refine iteT ⟨_, rfl, _, rfl, _, _, rfl, dgCaller hc.1, rfl, _, rfl, ?_⟩
    rw [decVI]
    cases h1 : decide (p = x.2.caller) with
    | true =>
      rw [h1] at k
      exact iteT k
    | false =>
      rw [h1] at k
      refine iteF ⟨_, rfl, _, _, rfl, dgState hc.1, rfl, ?_⟩
      show Q (.bl (!decide (V.str x.2.st.s = V.str Stg.looking.s))) H
      rw [eqStg]
      exact k
theorem sidesI_take {cs : List CallR} {i : Nat} {r : CallR} (h : cs[i]? = some r) : sidesI (cs.take (i + 1)) = sidesI (cs.take i) ++ (r.caller :: r.called.toList) := by
  unfold sidesI
  rw [List.take_succ, h, List.flatMap_append]
  show _ ++ (_ ++ []) = _
  rw [List.append_nil]
theorem sidesI_len (cs : List CallR) : (sidesI cs).length ≤ 2 * cs.length := by
  have : (sidesI cs).length = ((sidesV cs).filter (fun v => !decide (v = V.non))).length := by
    have key : ∀ cs : List CallR, (sidesI cs).length = ((sidesV cs).filter (fun v => !decide (v = V.non))).length := by
      intro cs
      rw [sidesV_filter, List.length_map]
    exact key cs
  rw [this, ← sidesV_len]
  exact List.length_filter_le _ _
def spLSides : Sp := sp1 fun a H Q => ∃ (L : Lb) (wd : Addr) (A : WA) (nums : List Str) (fr : List (Addr × Fct)) (wc : List (Addr × CallR)) (wl : List (Addr × LineR)), a = .ref A.cl ∧ WN L H wd A nums fr wc wl ∧ wc.length ≤ 1000 ∧
  ∀ l H', Same H H' → H l = none → H' l = some (.lst ((sidesI (wc.map (·.2))).map V.int)) → Q (.ref l) H'
theorem ok_law_sides (T : Hd K mg) : OkD P w K mg base d_law_sides 1 P_law_sides (spLSides) := by
  obtain ⟨fd, F⟩ := T.says.def_ 49 (d := d_law_sides) rfl
  refine ⟨fd, F, F.bindsN (ps := P_law_sides) (fun _ _ _ _ _ _ us hl => match us, hl with | [_], _ => rfl), F.ok sc_law_sides (fun vs H Q E h => sp1_len h) (fun cdv A outer s H vs Q E hr h => ?_)⟩
  have hu := hu_of hr
  obtain ⟨a, rfl, L, wd, B, nums, fr, wc, wl, rfl, N, hlen, k⟩ := h
  refine ⟨_, PSs.nox (pss_cons (ps_set (i := 1) sc_law_sides.nd rfl (Or.inl rfl) (pe_lst pa_nil)) (pss_cons (ps_for PassesOwn.never rfl (pi_list (pv 0)) (pg_name (i := 2) sc_law_sides.nd rfl (Or.inl rfl)) (pss_cons (ps_expr (pe_bm PySem.F.plainAttrs_list PySem.F.slot_list_append PySem.F.type_list_append mt_append (pv 1) (pa_cons (pe_dget hu (pv 2) pe_str (fun _ _ => rfl)) pa_nil))) (pss_one (ps_if (pt_cmpR op_notN (pe_dget hu (pv 2) pe_str (fun _ _ => rfl)) pe_non (nomark _)) (pss_one (ps_expr (pe_bm PySem.F.plainAttrs_list PySem.F.slot_list_append PySem.F.type_list_append mt_append (pv 1) (pa_cons (pe_dget hu (pv 2) pe_str (fun _ _ => rfl)) pa_nil)))) pss_nil)))) (pss_one (ps_ret (pv 1))))), ?_⟩
  refine ⟨Nat.zero_le _, fun l hl => ?_⟩
  have hcl := upd_old (x := .lst []) N.cl.1 hl
  refine ⟨_, rfl, B.cl, rfl, ⟨_, SqL.of hcl⟩, for_list (K := K) (a := B.cl) (xs := wc.map fun x => V.ref x.1)
    (fun i σ H2 => Same H H2 ∧ H2 l = some (.lst ((sidesI ((wc.map (·.2)).take i)).map V.int)) ∧ ∃ v, σ = [some (.ref B.cl), some (.ref l), v])
    ⟨same_new hl, upd_same, none, rfl⟩ (fun i σ H2 _ h => SqL.of (h.1 _ _ N.cl.1)) ?_ ?_⟩
  · rintro i x σ H2 hi ⟨s2, hl2, v, rfl⟩
    obtain ⟨y, hy, rfl⟩ := map_at hi
    have hc := N.calls y (List.mem_of_getElem? hy)
    have hc2 := s2 _ _ hc.1
    have hil := (List.getElem?_eq_some_iff.mp hy).1
    have hyc : (wc.map (·.2))[i]? = some y.2 := by rw [List.getElem?_map, hy]; rfl
    have small : ∀ n, n ≤ 1 → ((sidesI ((wc.map (·.2)).take i)).map V.int).length + n < sizeLine := fun n hn => by
      rw [List.length_map]
      have q := sidesI_len ((wc.map (·.2)).take i)
      rw [List.length_take, List.length_map] at q
      exact Nat.lt_of_le_of_lt (show _ ≤ 3000 by omega) (by decide)
    refine ⟨_, rfl, .inl ⟨rfl, _, SqL.of hl2⟩, _, rfl, _, _, rfl, dgCaller hc2, l, _, _, rfl, rfl, hl2, small 0 (by decide), ?_⟩
    have s3 := same_mut (o := .lst ((sidesI ((wc.map (·.2)).take i)).map V.int ++ [.int y.2.caller])) s2 hl
    have hc3 := s3 _ _ hc.1
    refine ⟨_, rfl, _, _, rfl, dgCalled hc3, rfl, _, rfl, ?_⟩
    show (if (!decide (oI y.2.called = V.non)) = true then _ else _)
    rw [oI_non]
    cases eg : y.2.called with
    | none =>
      refine iteF ⟨s3, ?_, _, rfl⟩
      rw [upd_same, sidesI_take hyc, eg, List.map_append]
      rfl
    | some g =>
      refine iteT ⟨_, rfl, .inl ⟨rfl, _, SqL.of upd_same⟩, _, rfl, _, _, rfl, dgCalled hc3, l, _, _, rfl, rfl, upd_same, ?_, ?_⟩
      · rw [List.length_append]
        exact small 1 (Nat.le_refl _)
      · refine ⟨same_mut s3 hl, ?_, _, rfl⟩
        rw [upd_same, sidesI_take hyc, eg, List.map_append, List.append_assoc]
        rfl
  · rintro σ H2 ⟨s2, hl2, v, rfl⟩
    refine ⟨_, rfl, ?_⟩
    refine k l H2 s2 hl ?_
    rw [hl2, List.take_of_length_le (by simp)]
theorem ok_law_refuse (T : Hd K mg) : OkD P w K mg base d_law_refuse 1 P_law_refuse (spRefuse) := by
  obtain ⟨fd, F⟩ := T.says.def_ 50 (d := d_law_refuse) rfl
  refine ⟨fd, F, F.bindsN (ps := P_law_refuse) (fun _ _ _ _ _ _ us hl => match us, hl with | [_, _], _ => rfl), F.ok sc_law_refuse (fun vs H Q E h => sp2_len h) (fun cdv A outer s H vs Q E hr h => ?_)⟩
  have hu := hu_of hr
  obtain ⟨a, b, rfl, p, c, rfl, rfl, k⟩ := h
  refine ⟨_, PSs.nox (pss_one (ps_ret (pe_lst (pa_cons (pe_tup (pa_cons pe_str (pa_cons (pv 0) (pa_cons (pe_tup (pa_cons pe_str (pa_cons (pv 1) pa_nil))) pa_nil)))) (pa_cons (pe_tup (pa_cons pe_str (pa_cons (pv 0) pa_nil))) pa_nil))))), ?_⟩
  refine ⟨_, rfl, _, rfl, by show 2 ≤ sizeLine; decide, fun m hm => ⟨by show 3 ≤ sizeLine; decide, fun t ht => ⟨_, rfl, by show 2 ≤ sizeLine; decide, fun u hu => ⟨by show 2 ≤ sizeLine; decide, fun l hl => ?_⟩⟩⟩⟩
  have e1 := upd_old (x := .tup [.str "tell", .int p, .ref m]) (o := .tup [.str "disconnect", .int c]) (p := t) (a := m) upd_same ht
  refine k _ _ ⟨((same_new hm).trans (same_new ht)).trans ((same_new hu).trans (same_new hl)), l, _, rfl, ?_, upd_same, ?_⟩
  · exact upd_free (upd_free (upd_free hl))
  · refine .cons (.tup (upd_old (upd_old upd_same hu) hl) (.cons (.str _) (.cons (.int _) (.cons (.tup (upd_old (upd_old e1 hu) hl) (.cons (.str _) (.cons (.int _) .nil))) .nil)))) (.cons (.tup (upd_old upd_same hl) (.cons (.str _) (.cons (.int _) .nil))) .nil)
def spLOther : Sp := sp2 fun a b H Q => ∃ (c : Addr) (r : CallR) (p : Int), a = .ref c ∧ b = .int p ∧ H c = some (.dK (callKvs r)) ∧ Q (oI (otherI r p)) H
theorem ok_law_other (T : Hd K mg) : OkD P w K mg base d_law_other 1 P_law_other (spLOther) := by
  obtain ⟨fd, F⟩ := T.says.def_ 55 (d := d_law_other) rfl
  refine ⟨fd, F, F.bindsN (ps := P_law_other) (fun _ _ _ _ _ _ us hl => match us, hl with | [_, _], _ => rfl), F.ok sc_law_other (fun vs H Q E h => sp2_len h) (fun cdv A outer s H vs Q E hr h => ?_)⟩
  have hu := hu_of hr
  obtain ⟨a, b, rfl, c, r, p, rfl, rfl, hc, k⟩ := h
  refine ⟨_, PSs.nox (pss_cons (ps_if (pt_cmpR op_eq (pv 1) (pe_dget hu (pv 0) pe_str (fun _ _ => rfl)) (nomark _)) (pss_one (ps_ret (pe_dget hu (pv 0) pe_str (fun _ _ => rfl)))) pss_nil) (pss_one (ps_ret (pe_dget hu (pv 0) pe_str (fun _ _ => rfl))))), ?_⟩
  refine ⟨_, rfl, _, rfl, _, _, rfl, dgCaller hc, rfl, _, rfl, ?_⟩
  unfold otherI at k
  refine ite2 (fun h1 => ?_) (fun h1 => ?_)
  · rw [if_pos (by simpa using h1)] at k
    exact ⟨_, rfl, _, _, rfl, dgCalled hc, k⟩
  · rw [if_neg (by simpa using h1)] at k
    exact ⟨_, rfl, _, _, rfl, dgCaller hc, k⟩
end
end Mob

set_option Elab.async false
set_option linter.all false
set_option maxRecDepth 100000
set_option maxHeartbeats 4000000
namespace Mob
open PySem PySem.Spec PyProof.Rows L2
section
variable {P : Program} {w : World} {K : PySem.W.Frag} {mg : Str → Option Value} {base : Heap}
/-! ### _law_goal -/
theorem inV_str (z : Str) (l : List Str) : inV (.str z) (l.map V.str) = (ixOf l z).isSome := by
  unfold inV ixOf
  rw [List.any_map]
  induction l with
  | nil => rfl
  | cons a l ih =>
    rw [List.any_cons, List.findIdx?_cons]
    show (decide (a = z) || _) = _
    cases h : decide (a = z) with
    | true => simp
    | false =>
      rw [Bool.false_or]
      have e : (l.any ((fun y => eqV y (V.str z)) ∘ V.str)) = (l.findIdx? fun y => decide (y = z)).isSome := ih
      rw [e]
      simp
theorem flat_strs (l : List Str) : (l.map V.str).all flatV = true := by
  rw [List.all_map]
  exact List.all_eq_true.mpr fun x _ => rfl
def spLGoal : Sp := sp6 fun a b c d e g H Q => ∃ (L : Lb) (wd : Addr) (A : WA) (nums : List Str) (fr : List (Addr × Fct)) (wc : List (Addr × CallR)) (wl : List (Addr × LineR)) (num : Str) (caller : Int) (bz : Addr) (busy : List Int) (h : Int),
  a = .ref A.nl ∧ b = .ref A.fl ∧ c = .str num ∧ d = .int caller ∧ e = .ref bz ∧ g = .int h ∧ WN L H wd A nums fr wc wl ∧ fr.length = nums.length ∧ SqL K H bz (busy.map V.int) ∧
  ∀ t H', Same H H' → H' t = some (.tup [oI (goalN nums (fr.map (·.2)) caller busy 4 num h).1, .int (goalN nums (fr.map (·.2)) caller busy 4 num h).2.1, .int (goalN nums (fr.map (·.2)) caller busy 4 num h).2.2]) → Q (.ref t) H'
theorem ok_law_goal (T : Hd K mg) : OkD P w K mg base d_law_goal 1 P_law_goal (spLGoal (K := K)) := by
  obtain ⟨fd, F⟩ := T.says.def_ 46 (d := d_law_goal) rfl
  refine ⟨fd, F, F.bindsN (ps := P_law_goal) (fun _ _ _ _ _ _ us hl => match us, hl with | [_, _, _, _, _, _], _ => rfl), F.ok sc_law_goal (fun vs H Q E h => sp6_len h) (fun cdv A outer s H vs Q E hr h => ?_)⟩
  have hu := hu_of hr
  obtain ⟨a, b, c, d, e, g, rfl, L, wd, B, nums, fr, wc, wl, num, caller, bz, busy, h0, rfl, rfl, rfl, rfl, rfl, rfl, N, hfl, hb, k⟩ := h
  refine ⟨_, PSs.nox (pss_cons (ps_for PassesOwn.never rfl (pi_range1 rfl T.fr_range (pa_cons pe_int pa_nil)) (pg_name (i := 6) sc_law_goal.nd rfl (Or.inl rfl)) (pss_cons (ps_if (pt_cmpR op_notIn_seq (pv 2) (pv 0) rfl) (pss_one (ps_ret (pe_tup (pa_cons pe_non (pa_cons pe_int (pa_cons (pv 5) pa_nil)))))) pss_nil) (pss_cons (ps_set (i := 7) sc_law_goal.nd rfl (Or.inl rfl) (pe_bm PySem.F.plainAttrs_list PySem.F.slot_list_index PySem.F.type_list_index mt_index (pv 0) (pa_cons (pv 2) pa_nil))) (pss_cons (ps_set (i := 8) sc_law_goal.nd rfl (Or.inl rfl) pe_str) (pss_cons (ps_set (i := 9) sc_law_goal.nd rfl (Or.inl rfl) pe_int) (pss_cons (ps_if (pt_cmpR op_isN (pe_dget hu (pe_ix ix_list (pv 1) (pv 7) (fun _ _ => rfl)) pe_str (fun _ _ => rfl)) pe_non (nomark _)) (pss_cons (ps_set (i := 8) sc_law_goal.nd rfl (Or.inl rfl) pe_str) (pss_one (ps_set (i := 9) sc_law_goal.nd rfl (Or.inl rfl) pe_int))) pss_nil) (pss_cons (ps_if ((pw_or (pt_cmpR op_eq (pv 7) (pv 3) (nomark _)) (pw_or1 (pt_cmpR op_in_seq (pv 7) (pv 4) rfl)))).pt (pss_cons (ps_set (i := 8) sc_law_goal.nd rfl (Or.inl rfl) pe_str) (pss_one (ps_set (i := 9) sc_law_goal.nd rfl (Or.inl rfl) pe_int))) pss_nil) (pss_cons (ps_if (pt_cmpR op_notN (pe_dget hu (pe_ix ix_list (pv 1) (pv 7) (fun _ _ => rfl)) pe_str (fun _ _ => rfl)) pe_non (nomark _)) (pss_cons (ps_set (i := 8) sc_law_goal.nd rfl (Or.inl rfl) pe_str) (pss_one (ps_set (i := 9) sc_law_goal.nd rfl (Or.inl rfl) pe_int))) pss_nil) (pss_cons (ps_if (pt_cmpR op_eq (pv 8) pe_str (nomark _)) (pss_one (ps_ret (pe_tup (pa_cons (pv 7) (pa_cons pe_int (pa_cons (pv 5) pa_nil)))))) pss_nil) (pss_cons (ps_set (i := 2) sc_law_goal.nd rfl (Or.inl rfl) (pe_dget hu (pe_ix ix_list (pv 1) (pv 7) (fun _ _ => rfl)) (pv 8) (fun _ _ => rfl))) (pss_cons (ps_if (pt_cmpR op_isN (pv 2) pe_non (nomark _)) (pss_one (ps_ret (pe_tup (pa_cons pe_non (pa_cons (pv 9) (pa_cons (pv 5) pa_nil)))))) pss_nil) (pss_cons (ps_if (pt_cmpR op_ge (pv 5) pe_int (nomark _)) (pss_one (ps_ret (pe_tup (pa_cons pe_non (pa_cons pe_int (pa_cons (pv 5) pa_nil)))))) pss_nil) (pss_one (ps_set (i := 5) sc_law_goal.nd rfl (Or.inl rfl) (pe_op op_add (pv 5) pe_int))))))))))))))) (pss_one (ps_ret (pe_tup (pa_cons pe_non (pa_cons pe_int (pa_cons (pv 5) pa_nil))))))), ?_⟩
  refine ⟨4, rfl, by decide, by decide, for_range (lo := 0) (n := 4) (fun i σ H2 => H2 = H ∧ ∃ (num' : Str) (h' : Int) (u v w x : Option V), σ = [some (.ref B.nl), some (.ref B.fl), some (.str num'), some (.int caller), some (.ref bz), some (.int h'), u, v, w, x] ∧
    goalN nums (fr.map (·.2)) caller busy (4 - i) num' h' = goalN nums (fr.map (·.2)) caller busy 4 num h0) ⟨rfl, num, h0, none, none, none, none, rfl, rfl⟩ ?_ ?_⟩
  · rintro i σ H2 hi ⟨rfl, num', h', u, v, w, x, rfl, eg⟩
    obtain ⟨f, hf⟩ : ∃ f, 4 - i = f + 1 := ⟨3 - i, by omega⟩
    have hf4 : 4 - (i + 1) = f := by omega
    rw [hf] at eg
    refine ⟨_, rfl, _, rfl, _, _, rfl, .inl (SqL.of N.nl.1), rfl, flat_strs _, _, rfl, ?_⟩
    show (if (!inV (.str num') (nums.map V.str)) = true then _ else _)
    rw [inV_str]
    cases hj : ixOf nums num' with
    | none =>
      have e2 : goalN nums (fr.map (·.2)) caller busy (f + 1) num' h' = (none, 1, h') := by
        unfold goalN
        simp only [hj]
      refine iteT ?_
      refine ⟨_, rfl, by show 3 ≤ sizeLine; decide, fun t ht => ?_⟩
      refine k t _ (same_new ht) ?_
      rw [← eg, e2]
      exact upd_same
    | some j =>
      have hjl := ixOf_lt hj
      obtain ⟨hj1, hj2, hj3⟩ := List.findIdx?_eq_some_iff_getElem.mp (show nums.findIdx? (fun y => decide (y = num')) = some j from hj)
      have ej : nums[j]? = some num' := by rw [List.getElem?_eq_getElem hjl, of_decide_eq_true hj2]
      obtain ⟨y, hy⟩ : ∃ y, fr[j]? = some y := ⟨fr[j]'(by omega), List.getElem?_eq_getElem _⟩
      obtain ⟨fa0, fc⟩ := y
      have hfc := (N.facts _ (List.mem_of_getElem? hy)).1
      have efc : (fr.map (·.2)).getD j fct0 = fc := by rw [List.getD_eq_getElem?_getD, List.getElem?_map, hy]; rfl
      have hat : atI (fr.map fun x => V.ref x.1) ((j : Nat) : Int) = some (.ref fa0) := atI_nat (by rw [List.getElem?_map, hy]; rfl)
      refine iteF ?_
      refine ⟨_, rfl, .inl ⟨rfl, _, SqL.of N.nl.1⟩, _, rfl, B.nl, _, _, j, .str num', rfl, rfl, SqL.of N.nl.1, rfl, flat_strs _, by rw [List.getElem?_map, ej]; rfl, decide_eq_true rfl, fun m z hm hz => ?_, ?_⟩
      · obtain ⟨z0, hz0, rfl⟩ := map_at hz
        have hml := (List.getElem?_eq_some_iff.mp hz0)
        have := hj3 m hm
        show decide (z0 = num') = false
        rw [← hml.2]
        exact bT this
      refine ⟨_, rfl, _, rfl, B.fl, _, _, _, rfl, rfl, SqL.of N.fl.1, hat, _, _, rfl, dgArea hfc, rfl, _, rfl, ?_⟩
      show (if decide (oI fc.ar = V.non) = true then _ else _)
      rw [oI_non]
      cases hA : fc.ar with
      | none =>
        refine iteT ?_
        refine ⟨_, rfl, _, rfl, rfl, _, rfl, ?_⟩
        rw [decVI]
        cases hB : decide ((j : Int) = caller) with
        | true =>
          refine iteT (iteT ?_)
          refine ⟨_, rfl, _, rfl, B.fl, _, _, _, rfl, rfl, SqL.of N.fl.1, hat, _, _, rfl, dgKd hfc .al, rfl, _, rfl, ?_⟩
          show (if (!decide (oS fc.al = V.non)) = true then _ else _)
          rw [oS_non]
          cases hD : fc.al with
          | some za =>
            refine iteT ?_
            have er : rule fc (j : Int) caller busy = (some .al, 0) := (by unfold rule; rw [if_pos (by rw [hD]; rfl)])
            refine ⟨_, rfl, rfl, _, rfl, iteF ?_⟩
            refine ⟨_, rfl, _, rfl, B.fl, _, _, _, rfl, rfl, SqL.of N.fl.1, hat, _, rfl, _, _, rfl, dgKd hfc .al, ?_⟩
            refine ⟨_, rfl, rfl, _, rfl, ?_⟩
            show (if decide (oS (fc.fw .al) = V.non) = true then _ else _)
            rw [oS_non]
            cases hf : fc.fw .al with
            | none =>
              have e2 : goalN nums (fr.map (·.2)) caller busy (f + 1) num' h' = (none, 0, h') := by
                unfold goalN
                simp only [hj, efc, er, hf]
              refine iteT ?_
              refine ⟨_, rfl, _, rfl, by show 3 ≤ sizeLine; decide, fun t ht => ?_⟩
              refine k t _ (same_new ht) ?_
              rw [← eg, e2]
              exact upd_same
            | some num2 =>
              refine iteF ?_
              refine ⟨_, rfl, _, _, rfl, rfl, _, rfl, ?_⟩
              show (if decide (2 ≤ h') = true then _ else _)
              cases hh : decide (2 ≤ h') with
              | true =>
                have e2 : goalN nums (fr.map (·.2)) caller busy (f + 1) num' h' = (none, 31, h') := by
                  unfold goalN
                  simp only [hj, efc, er, hf]
                  rw [if_pos (of_decide_eq_true hh)]
                refine iteT ?_
                refine ⟨_, rfl, by show 3 ≤ sizeLine; decide, fun t ht => ?_⟩
                refine k t _ (same_new ht) ?_
                rw [← eg, e2]
                exact upd_same
              | false =>
                have e2 : goalN nums (fr.map (·.2)) caller busy (f + 1) num' h' = goalN nums (fr.map (·.2)) caller busy f num2 (h' + 1) := by
                  conv => lhs; unfold goalN
                  simp only [hj, efc, er, hf]
                  rw [if_neg (of_decide_eq_false hh)]
                refine iteF ⟨_, rfl, _, _, rfl, rfl, ?_⟩
                exact ⟨rfl, num2, h' + 1, _, _, _, _, rfl, by rw [← eg, e2, hf4]⟩
          | none =>
            refine iteF ?_
            have er : rule fc (j : Int) caller busy = (some .bu, 17) := (by unfold rule; rw [if_neg (by rw [hD]; simp), if_pos (.inl (of_decide_eq_true hB))])
            refine ⟨_, rfl, rfl, _, rfl, iteF ?_⟩
            refine ⟨_, rfl, _, rfl, B.fl, _, _, _, rfl, rfl, SqL.of N.fl.1, hat, _, rfl, _, _, rfl, dgKd hfc .bu, ?_⟩
            refine ⟨_, rfl, rfl, _, rfl, ?_⟩
            show (if decide (oS (fc.fw .bu) = V.non) = true then _ else _)
            rw [oS_non]
            cases hf : fc.fw .bu with
            | none =>
              have e2 : goalN nums (fr.map (·.2)) caller busy (f + 1) num' h' = (none, 17, h') := by
                unfold goalN
                simp only [hj, efc, er, hf]
              refine iteT ?_
              refine ⟨_, rfl, _, rfl, by show 3 ≤ sizeLine; decide, fun t ht => ?_⟩
              refine k t _ (same_new ht) ?_
              rw [← eg, e2]
              exact upd_same
            | some num2 =>
              refine iteF ?_
              refine ⟨_, rfl, _, _, rfl, rfl, _, rfl, ?_⟩
              show (if decide (2 ≤ h') = true then _ else _)
              cases hh : decide (2 ≤ h') with
              | true =>
                have e2 : goalN nums (fr.map (·.2)) caller busy (f + 1) num' h' = (none, 31, h') := by
                  unfold goalN
                  simp only [hj, efc, er, hf]
                  rw [if_pos (of_decide_eq_true hh)]
                refine iteT ?_
                refine ⟨_, rfl, by show 3 ≤ sizeLine; decide, fun t ht => ?_⟩
                refine k t _ (same_new ht) ?_
                rw [← eg, e2]
                exact upd_same
              | false =>
                have e2 : goalN nums (fr.map (·.2)) caller busy (f + 1) num' h' = goalN nums (fr.map (·.2)) caller busy f num2 (h' + 1) := by
                  conv => lhs; unfold goalN
                  simp only [hj, efc, er, hf]
                  rw [if_neg (of_decide_eq_false hh)]
                refine iteF ⟨_, rfl, _, _, rfl, rfl, ?_⟩
                exact ⟨rfl, num2, h' + 1, _, _, _, _, rfl, by rw [← eg, e2, hf4]⟩
        | false =>
          refine iteF ⟨_, rfl, _, rfl, _, _, rfl, .inl hb, rfl, flat_ints _, _, rfl, ?_⟩
          show (if inV (.int (j : Int)) (busy.map V.int) = true then _ else _)
          rw [inV_int]
          cases hC : decide ((j : Int) ∈ busy) with
          | true =>
            refine iteT ?_
            refine ⟨_, rfl, _, rfl, B.fl, _, _, _, rfl, rfl, SqL.of N.fl.1, hat, _, _, rfl, dgKd hfc .al, rfl, _, rfl, ?_⟩
            show (if (!decide (oS fc.al = V.non)) = true then _ else _)
            rw [oS_non]
            cases hD : fc.al with
            | some za =>
              refine iteT ?_
              have er : rule fc (j : Int) caller busy = (some .al, 0) := (by unfold rule; rw [if_pos (by rw [hD]; rfl)])
              refine ⟨_, rfl, rfl, _, rfl, iteF ?_⟩
              refine ⟨_, rfl, _, rfl, B.fl, _, _, _, rfl, rfl, SqL.of N.fl.1, hat, _, rfl, _, _, rfl, dgKd hfc .al, ?_⟩
              refine ⟨_, rfl, rfl, _, rfl, ?_⟩
              show (if decide (oS (fc.fw .al) = V.non) = true then _ else _)
              rw [oS_non]
              cases hf : fc.fw .al with
              | none =>
                have e2 : goalN nums (fr.map (·.2)) caller busy (f + 1) num' h' = (none, 0, h') := by
                  unfold goalN
                  simp only [hj, efc, er, hf]
                refine iteT ?_
                refine ⟨_, rfl, _, rfl, by show 3 ≤ sizeLine; decide, fun t ht => ?_⟩
                refine k t _ (same_new ht) ?_
                rw [← eg, e2]
                exact upd_same
              | some num2 =>
                refine iteF ?_
                refine ⟨_, rfl, _, _, rfl, rfl, _, rfl, ?_⟩
                show (if decide (2 ≤ h') = true then _ else _)
                cases hh : decide (2 ≤ h') with
                | true =>
                  have e2 : goalN nums (fr.map (·.2)) caller busy (f + 1) num' h' = (none, 31, h') := by
                    unfold goalN
                    simp only [hj, efc, er, hf]
                    rw [if_pos (of_decide_eq_true hh)]
                  refine iteT ?_
                  refine ⟨_, rfl, by show 3 ≤ sizeLine; decide, fun t ht => ?_⟩
                  refine k t _ (same_new ht) ?_
                  rw [← eg, e2]
                  exact upd_same
                | false =>
                  have e2 : goalN nums (fr.map (·.2)) caller busy (f + 1) num' h' = goalN nums (fr.map (·.2)) caller busy f num2 (h' + 1) := by
                    conv => lhs; unfold goalN
                    simp only [hj, efc, er, hf]
                    rw [if_neg (of_decide_eq_false hh)]
                  refine iteF ⟨_, rfl, _, _, rfl, rfl, ?_⟩
                  exact ⟨rfl, num2, h' + 1, _, _, _, _, rfl, by rw [← eg, e2, hf4]⟩
            | none =>
              refine iteF ?_
              have er : rule fc (j : Int) caller busy = (some .bu, 17) := (by unfold rule; rw [if_neg (by rw [hD]; simp), if_pos (.inr (of_decide_eq_true hC))])
              refine ⟨_, rfl, rfl, _, rfl, iteF ?_⟩
              refine ⟨_, rfl, _, rfl, B.fl, _, _, _, rfl, rfl, SqL.of N.fl.1, hat, _, rfl, _, _, rfl, dgKd hfc .bu, ?_⟩
              refine ⟨_, rfl, rfl, _, rfl, ?_⟩
              show (if decide (oS (fc.fw .bu) = V.non) = true then _ else _)
              rw [oS_non]
              cases hf : fc.fw .bu with
              | none =>
                have e2 : goalN nums (fr.map (·.2)) caller busy (f + 1) num' h' = (none, 17, h') := by
                  unfold goalN
                  simp only [hj, efc, er, hf]
                refine iteT ?_
                refine ⟨_, rfl, _, rfl, by show 3 ≤ sizeLine; decide, fun t ht => ?_⟩
                refine k t _ (same_new ht) ?_
                rw [← eg, e2]
                exact upd_same
              | some num2 =>
                refine iteF ?_
                refine ⟨_, rfl, _, _, rfl, rfl, _, rfl, ?_⟩
                show (if decide (2 ≤ h') = true then _ else _)
                cases hh : decide (2 ≤ h') with
                | true =>
                  have e2 : goalN nums (fr.map (·.2)) caller busy (f + 1) num' h' = (none, 31, h') := by
                    unfold goalN
                    simp only [hj, efc, er, hf]
                    rw [if_pos (of_decide_eq_true hh)]
                  refine iteT ?_
                  refine ⟨_, rfl, by show 3 ≤ sizeLine; decide, fun t ht => ?_⟩
                  refine k t _ (same_new ht) ?_
                  rw [← eg, e2]
                  exact upd_same
                | false =>
                  have e2 : goalN nums (fr.map (·.2)) caller busy (f + 1) num' h' = goalN nums (fr.map (·.2)) caller busy f num2 (h' + 1) := by
                    conv => lhs; unfold goalN
                    simp only [hj, efc, er, hf]
                    rw [if_neg (of_decide_eq_false hh)]
                  refine iteF ⟨_, rfl, _, _, rfl, rfl, ?_⟩
                  exact ⟨rfl, num2, h' + 1, _, _, _, _, rfl, by rw [← eg, e2, hf4]⟩
          | false =>
            refine iteF ?_
            refine ⟨_, rfl, _, rfl, B.fl, _, _, _, rfl, rfl, SqL.of N.fl.1, hat, _, _, rfl, dgKd hfc .al, rfl, _, rfl, ?_⟩
            show (if (!decide (oS fc.al = V.non)) = true then _ else _)
            rw [oS_non]
            cases hD : fc.al with
            | some za =>
              refine iteT ?_
              have er : rule fc (j : Int) caller busy = (some .al, 0) := (by unfold rule; rw [if_pos (by rw [hD]; rfl)])
              refine ⟨_, rfl, rfl, _, rfl, iteF ?_⟩
              refine ⟨_, rfl, _, rfl, B.fl, _, _, _, rfl, rfl, SqL.of N.fl.1, hat, _, rfl, _, _, rfl, dgKd hfc .al, ?_⟩
              refine ⟨_, rfl, rfl, _, rfl, ?_⟩
              show (if decide (oS (fc.fw .al) = V.non) = true then _ else _)
              rw [oS_non]
              cases hf : fc.fw .al with
              | none =>
                have e2 : goalN nums (fr.map (·.2)) caller busy (f + 1) num' h' = (none, 0, h') := by
                  unfold goalN
                  simp only [hj, efc, er, hf]
                refine iteT ?_
                refine ⟨_, rfl, _, rfl, by show 3 ≤ sizeLine; decide, fun t ht => ?_⟩
                refine k t _ (same_new ht) ?_
                rw [← eg, e2]
                exact upd_same
              | some num2 =>
                refine iteF ?_
                refine ⟨_, rfl, _, _, rfl, rfl, _, rfl, ?_⟩
                show (if decide (2 ≤ h') = true then _ else _)
                cases hh : decide (2 ≤ h') with
                | true =>
                  have e2 : goalN nums (fr.map (·.2)) caller busy (f + 1) num' h' = (none, 31, h') := by
                    unfold goalN
                    simp only [hj, efc, er, hf]
                    rw [if_pos (of_decide_eq_true hh)]
                  refine iteT ?_
                  refine ⟨_, rfl, by show 3 ≤ sizeLine; decide, fun t ht => ?_⟩
                  refine k t _ (same_new ht) ?_
                  rw [← eg, e2]
                  exact upd_same
                | false =>
                  have e2 : goalN nums (fr.map (·.2)) caller busy (f + 1) num' h' = goalN nums (fr.map (·.2)) caller busy f num2 (h' + 1) := by
                    conv => lhs; unfold goalN
                    simp only [hj, efc, er, hf]
                    rw [if_neg (of_decide_eq_false hh)]
                  refine iteF ⟨_, rfl, _, _, rfl, rfl, ?_⟩
                  exact ⟨rfl, num2, h' + 1, _, _, _, _, rfl, by rw [← eg, e2, hf4]⟩
            | none =>
              refine iteF ?_
              have er : rule fc (j : Int) caller busy = (some .ur, 20) := (by unfold rule; rw [if_neg (by rw [hD]; simp), if_neg (fun z => z.elim (of_decide_eq_false hB) (of_decide_eq_false hC)), if_pos (by rw [hA]; rfl)])
              refine ⟨_, rfl, rfl, _, rfl, iteF ?_⟩
              refine ⟨_, rfl, _, rfl, B.fl, _, _, _, rfl, rfl, SqL.of N.fl.1, hat, _, rfl, _, _, rfl, dgKd hfc .ur, ?_⟩
              refine ⟨_, rfl, rfl, _, rfl, ?_⟩
              show (if decide (oS (fc.fw .ur) = V.non) = true then _ else _)
              rw [oS_non]
              cases hf : fc.fw .ur with
              | none =>
                have e2 : goalN nums (fr.map (·.2)) caller busy (f + 1) num' h' = (none, 20, h') := by
                  unfold goalN
                  simp only [hj, efc, er, hf]
                refine iteT ?_
                refine ⟨_, rfl, _, rfl, by show 3 ≤ sizeLine; decide, fun t ht => ?_⟩
                refine k t _ (same_new ht) ?_
                rw [← eg, e2]
                exact upd_same
              | some num2 =>
                refine iteF ?_
                refine ⟨_, rfl, _, _, rfl, rfl, _, rfl, ?_⟩
                show (if decide (2 ≤ h') = true then _ else _)
                cases hh : decide (2 ≤ h') with
                | true =>
                  have e2 : goalN nums (fr.map (·.2)) caller busy (f + 1) num' h' = (none, 31, h') := by
                    unfold goalN
                    simp only [hj, efc, er, hf]
                    rw [if_pos (of_decide_eq_true hh)]
                  refine iteT ?_
                  refine ⟨_, rfl, by show 3 ≤ sizeLine; decide, fun t ht => ?_⟩
                  refine k t _ (same_new ht) ?_
                  rw [← eg, e2]
                  exact upd_same
                | false =>
                  have e2 : goalN nums (fr.map (·.2)) caller busy (f + 1) num' h' = goalN nums (fr.map (·.2)) caller busy f num2 (h' + 1) := by
                    conv => lhs; unfold goalN
                    simp only [hj, efc, er, hf]
                    rw [if_neg (of_decide_eq_false hh)]
                  refine iteF ⟨_, rfl, _, _, rfl, rfl, ?_⟩
                  exact ⟨rfl, num2, h' + 1, _, _, _, _, rfl, by rw [← eg, e2, hf4]⟩
      | some za =>
        refine iteF ?_
        refine ⟨_, rfl, _, rfl, rfl, _, rfl, ?_⟩
        rw [decVI]
        cases hB : decide ((j : Int) = caller) with
        | true =>
          refine iteT (iteT ?_)
          refine ⟨_, rfl, _, rfl, B.fl, _, _, _, rfl, rfl, SqL.of N.fl.1, hat, _, _, rfl, dgKd hfc .al, rfl, _, rfl, ?_⟩
          show (if (!decide (oS fc.al = V.non)) = true then _ else _)
          rw [oS_non]
          cases hD : fc.al with
          | some za =>
            refine iteT ?_
            have er : rule fc (j : Int) caller busy = (some .al, 0) := (by unfold rule; rw [if_pos (by rw [hD]; rfl)])
            refine ⟨_, rfl, rfl, _, rfl, iteF ?_⟩
            refine ⟨_, rfl, _, rfl, B.fl, _, _, _, rfl, rfl, SqL.of N.fl.1, hat, _, rfl, _, _, rfl, dgKd hfc .al, ?_⟩
            refine ⟨_, rfl, rfl, _, rfl, ?_⟩
            show (if decide (oS (fc.fw .al) = V.non) = true then _ else _)
            rw [oS_non]
            cases hf : fc.fw .al with
            | none =>
              have e2 : goalN nums (fr.map (·.2)) caller busy (f + 1) num' h' = (none, 0, h') := by
                unfold goalN
                simp only [hj, efc, er, hf]
              refine iteT ?_
              refine ⟨_, rfl, _, rfl, by show 3 ≤ sizeLine; decide, fun t ht => ?_⟩
              refine k t _ (same_new ht) ?_
              rw [← eg, e2]
              exact upd_same
            | some num2 =>
              refine iteF ?_
              refine ⟨_, rfl, _, _, rfl, rfl, _, rfl, ?_⟩
              show (if decide (2 ≤ h') = true then _ else _)
              cases hh : decide (2 ≤ h') with
              | true =>
                have e2 : goalN nums (fr.map (·.2)) caller busy (f + 1) num' h' = (none, 31, h') := by
                  unfold goalN
                  simp only [hj, efc, er, hf]
                  rw [if_pos (of_decide_eq_true hh)]
                refine iteT ?_
                refine ⟨_, rfl, by show 3 ≤ sizeLine; decide, fun t ht => ?_⟩
                refine k t _ (same_new ht) ?_
                rw [← eg, e2]
                exact upd_same
              | false =>
                have e2 : goalN nums (fr.map (·.2)) caller busy (f + 1) num' h' = goalN nums (fr.map (·.2)) caller busy f num2 (h' + 1) := by
                  conv => lhs; unfold goalN
                  simp only [hj, efc, er, hf]
                  rw [if_neg (of_decide_eq_false hh)]
                refine iteF ⟨_, rfl, _, _, rfl, rfl, ?_⟩
                exact ⟨rfl, num2, h' + 1, _, _, _, _, rfl, by rw [← eg, e2, hf4]⟩
          | none =>
            refine iteF ?_
            have er : rule fc (j : Int) caller busy = (some .bu, 17) := (by unfold rule; rw [if_neg (by rw [hD]; simp), if_pos (.inl (of_decide_eq_true hB))])
            refine ⟨_, rfl, rfl, _, rfl, iteF ?_⟩
            refine ⟨_, rfl, _, rfl, B.fl, _, _, _, rfl, rfl, SqL.of N.fl.1, hat, _, rfl, _, _, rfl, dgKd hfc .bu, ?_⟩
            refine ⟨_, rfl, rfl, _, rfl, ?_⟩
            show (if decide (oS (fc.fw .bu) = V.non) = true then _ else _)
            rw [oS_non]
            cases hf : fc.fw .bu with
            | none =>
              have e2 : goalN nums (fr.map (·.2)) caller busy (f + 1) num' h' = (none, 17, h') := by
                unfold goalN
                simp only [hj, efc, er, hf]
              refine iteT ?_
              refine ⟨_, rfl, _, rfl, by show 3 ≤ sizeLine; decide, fun t ht => ?_⟩
              refine k t _ (same_new ht) ?_
              rw [← eg, e2]
              exact upd_same
            | some num2 =>
              refine iteF ?_
              refine ⟨_, rfl, _, _, rfl, rfl, _, rfl, ?_⟩
              show (if decide (2 ≤ h') = true then _ else _)
              cases hh : decide (2 ≤ h') with
              | true =>
                have e2 : goalN nums (fr.map (·.2)) caller busy (f + 1) num' h' = (none, 31, h') := by
                  unfold goalN
                  simp only [hj, efc, er, hf]
                  rw [if_pos (of_decide_eq_true hh)]
                refine iteT ?_
                refine ⟨_, rfl, by show 3 ≤ sizeLine; decide, fun t ht => ?_⟩
                refine k t _ (same_new ht) ?_
                rw [← eg, e2]
                exact upd_same
              | false =>
                have e2 : goalN nums (fr.map (·.2)) caller busy (f + 1) num' h' = goalN nums (fr.map (·.2)) caller busy f num2 (h' + 1) := by
                  conv => lhs; unfold goalN
                  simp only [hj, efc, er, hf]
                  rw [if_neg (of_decide_eq_false hh)]
                refine iteF ⟨_, rfl, _, _, rfl, rfl, ?_⟩
                exact ⟨rfl, num2, h' + 1, _, _, _, _, rfl, by rw [← eg, e2, hf4]⟩
        | false =>
          refine iteF ⟨_, rfl, _, rfl, _, _, rfl, .inl hb, rfl, flat_ints _, _, rfl, ?_⟩
          show (if inV (.int (j : Int)) (busy.map V.int) = true then _ else _)
          rw [inV_int]
          cases hC : decide ((j : Int) ∈ busy) with
          | true =>
            refine iteT ?_
            refine ⟨_, rfl, _, rfl, B.fl, _, _, _, rfl, rfl, SqL.of N.fl.1, hat, _, _, rfl, dgKd hfc .al, rfl, _, rfl, ?_⟩
            show (if (!decide (oS fc.al = V.non)) = true then _ else _)
            rw [oS_non]
            cases hD : fc.al with
            | some za =>
              refine iteT ?_
              have er : rule fc (j : Int) caller busy = (some .al, 0) := (by unfold rule; rw [if_pos (by rw [hD]; rfl)])
              refine ⟨_, rfl, rfl, _, rfl, iteF ?_⟩
              refine ⟨_, rfl, _, rfl, B.fl, _, _, _, rfl, rfl, SqL.of N.fl.1, hat, _, rfl, _, _, rfl, dgKd hfc .al, ?_⟩
              refine ⟨_, rfl, rfl, _, rfl, ?_⟩
              show (if decide (oS (fc.fw .al) = V.non) = true then _ else _)
              rw [oS_non]
              cases hf : fc.fw .al with
              | none =>
                have e2 : goalN nums (fr.map (·.2)) caller busy (f + 1) num' h' = (none, 0, h') := by
                  unfold goalN
                  simp only [hj, efc, er, hf]
                refine iteT ?_
                refine ⟨_, rfl, _, rfl, by show 3 ≤ sizeLine; decide, fun t ht => ?_⟩
                refine k t _ (same_new ht) ?_
                rw [← eg, e2]
                exact upd_same
              | some num2 =>
                refine iteF ?_
                refine ⟨_, rfl, _, _, rfl, rfl, _, rfl, ?_⟩
                show (if decide (2 ≤ h') = true then _ else _)
                cases hh : decide (2 ≤ h') with
                | true =>
                  have e2 : goalN nums (fr.map (·.2)) caller busy (f + 1) num' h' = (none, 31, h') := by
                    unfold goalN
                    simp only [hj, efc, er, hf]
                    rw [if_pos (of_decide_eq_true hh)]
                  refine iteT ?_
                  refine ⟨_, rfl, by show 3 ≤ sizeLine; decide, fun t ht => ?_⟩
                  refine k t _ (same_new ht) ?_
                  rw [← eg, e2]
                  exact upd_same
                | false =>
                  have e2 : goalN nums (fr.map (·.2)) caller busy (f + 1) num' h' = goalN nums (fr.map (·.2)) caller busy f num2 (h' + 1) := by
                    conv => lhs; unfold goalN
                    simp only [hj, efc, er, hf]
                    rw [if_neg (of_decide_eq_false hh)]
                  refine iteF ⟨_, rfl, _, _, rfl, rfl, ?_⟩
                  exact ⟨rfl, num2, h' + 1, _, _, _, _, rfl, by rw [← eg, e2, hf4]⟩
            | none =>
              refine iteF ?_
              have er : rule fc (j : Int) caller busy = (some .bu, 17) := (by unfold rule; rw [if_neg (by rw [hD]; simp), if_pos (.inr (of_decide_eq_true hC))])
              refine ⟨_, rfl, rfl, _, rfl, iteF ?_⟩
              refine ⟨_, rfl, _, rfl, B.fl, _, _, _, rfl, rfl, SqL.of N.fl.1, hat, _, rfl, _, _, rfl, dgKd hfc .bu, ?_⟩
              refine ⟨_, rfl, rfl, _, rfl, ?_⟩
              show (if decide (oS (fc.fw .bu) = V.non) = true then _ else _)
              rw [oS_non]
              cases hf : fc.fw .bu with
              | none =>
                have e2 : goalN nums (fr.map (·.2)) caller busy (f + 1) num' h' = (none, 17, h') := by
                  unfold goalN
                  simp only [hj, efc, er, hf]
                refine iteT ?_
                refine ⟨_, rfl, _, rfl, by show 3 ≤ sizeLine; decide, fun t ht => ?_⟩
                refine k t _ (same_new ht) ?_
                rw [← eg, e2]
                exact upd_same
              | some num2 =>
                refine iteF ?_
                refine ⟨_, rfl, _, _, rfl, rfl, _, rfl, ?_⟩
                show (if decide (2 ≤ h') = true then _ else _)
                cases hh : decide (2 ≤ h') with
                | true =>
                  have e2 : goalN nums (fr.map (·.2)) caller busy (f + 1) num' h' = (none, 31, h') := by
                    unfold goalN
                    simp only [hj, efc, er, hf]
                    rw [if_pos (of_decide_eq_true hh)]
                  refine iteT ?_
                  refine ⟨_, rfl, by show 3 ≤ sizeLine; decide, fun t ht => ?_⟩
                  refine k t _ (same_new ht) ?_
                  rw [← eg, e2]
                  exact upd_same
                | false =>
                  have e2 : goalN nums (fr.map (·.2)) caller busy (f + 1) num' h' = goalN nums (fr.map (·.2)) caller busy f num2 (h' + 1) := by
                    conv => lhs; unfold goalN
                    simp only [hj, efc, er, hf]
                    rw [if_neg (of_decide_eq_false hh)]
                  refine iteF ⟨_, rfl, _, _, rfl, rfl, ?_⟩
                  exact ⟨rfl, num2, h' + 1, _, _, _, _, rfl, by rw [← eg, e2, hf4]⟩
          | false =>
            refine iteF ?_
            refine ⟨_, rfl, _, rfl, B.fl, _, _, _, rfl, rfl, SqL.of N.fl.1, hat, _, _, rfl, dgKd hfc .al, rfl, _, rfl, ?_⟩
            show (if (!decide (oS fc.al = V.non)) = true then _ else _)
            rw [oS_non]
            cases hD : fc.al with
            | some za =>
              refine iteT ?_
              have er : rule fc (j : Int) caller busy = (some .al, 0) := (by unfold rule; rw [if_pos (by rw [hD]; rfl)])
              refine ⟨_, rfl, rfl, _, rfl, iteF ?_⟩
              refine ⟨_, rfl, _, rfl, B.fl, _, _, _, rfl, rfl, SqL.of N.fl.1, hat, _, rfl, _, _, rfl, dgKd hfc .al, ?_⟩
              refine ⟨_, rfl, rfl, _, rfl, ?_⟩
              show (if decide (oS (fc.fw .al) = V.non) = true then _ else _)
              rw [oS_non]
              cases hf : fc.fw .al with
              | none =>
                have e2 : goalN nums (fr.map (·.2)) caller busy (f + 1) num' h' = (none, 0, h') := by
                  unfold goalN
                  simp only [hj, efc, er, hf]
                refine iteT ?_
                refine ⟨_, rfl, _, rfl, by show 3 ≤ sizeLine; decide, fun t ht => ?_⟩
                refine k t _ (same_new ht) ?_
                rw [← eg, e2]
                exact upd_same
              | some num2 =>
                refine iteF ?_
                refine ⟨_, rfl, _, _, rfl, rfl, _, rfl, ?_⟩
                show (if decide (2 ≤ h') = true then _ else _)
                cases hh : decide (2 ≤ h') with
                | true =>
                  have e2 : goalN nums (fr.map (·.2)) caller busy (f + 1) num' h' = (none, 31, h') := by
                    unfold goalN
                    simp only [hj, efc, er, hf]
                    rw [if_pos (of_decide_eq_true hh)]
                  refine iteT ?_
                  refine ⟨_, rfl, by show 3 ≤ sizeLine; decide, fun t ht => ?_⟩
                  refine k t _ (same_new ht) ?_
                  rw [← eg, e2]
                  exact upd_same
                | false =>
                  have e2 : goalN nums (fr.map (·.2)) caller busy (f + 1) num' h' = goalN nums (fr.map (·.2)) caller busy f num2 (h' + 1) := by
                    conv => lhs; unfold goalN
                    simp only [hj, efc, er, hf]
                    rw [if_neg (of_decide_eq_false hh)]
                  refine iteF ⟨_, rfl, _, _, rfl, rfl, ?_⟩
                  exact ⟨rfl, num2, h' + 1, _, _, _, _, rfl, by rw [← eg, e2, hf4]⟩
            | none =>
              refine iteF ?_
              have er : rule fc (j : Int) caller busy = (none, 0) := (by unfold rule; rw [if_neg (by rw [hD]; simp), if_neg (fun z => z.elim (of_decide_eq_false hB) (of_decide_eq_false hC)), if_neg (by rw [hA]; simp)])
              have e2 : goalN nums (fr.map (·.2)) caller busy (f + 1) num' h' = (some (j : Int), 0, h') := by
                unfold goalN
                simp only [hj, efc, er]
              refine ⟨_, rfl, rfl, _, rfl, iteT ?_⟩
              refine ⟨_, rfl, _, rfl, by show 3 ≤ sizeLine; decide, fun t ht => ?_⟩
              refine k t _ (same_new ht) ?_
              rw [← eg, e2]
              exact upd_same
  · rintro σ H2 ⟨rfl, num', h', u, v, w, x, rfl, eg⟩
    refine ⟨_, rfl, by show 3 ≤ sizeLine; decide, fun t ht => ?_⟩
    refine k t _ (same_new ht) ?_
    rw [← eg]
    exact upd_same
end
end Mob

set_option Elab.async false
set_option linter.all false
set_option maxRecDepth 100000
set_option maxHeartbeats 4000000
namespace Mob
open PySem PySem.Spec PyProof.Rows L2
section
variable {P : Program} {w : World} {K : PySem.W.Frag} {mg : Str → Option Value} {base : Heap}
/-! ### the law's events: start, called, connected, word -/
inductive Ek where | start | answered | alerting | connect | connected | word | disconnect | lost | failed | step deriving DecidableEq
def Ek.s : Ek → Str
  | .start => "start" | .answered => "answered" | .alerting => "alerting" | .connect => "connect" | .connected => "connected" | .word => "word" | .disconnect => "disconnect" | .lost => "lost" | .failed => "failed" | .step => "step"
theorem eqEk (s t : Ek) : decide (V.str s.s = V.str t.s) = decide (s = t) := by
  cases s <;> cases t <;> decide +kernel
def mCalled (E : Env0) (N : Net) (k : Ek) (p t : Int) : List PyData × Net := match k with
  | .answered => mAnswered E N p t
  | .alerting => mAlerting N p
  | .connect => mConnect N p
  | _ => ([], N)
def spLStart : Sp := sp4 fun a b c d H Q => ∃ (L : Lb) (wd : Addr) (A : WA) (nums : List Str) (fr : List (Addr × Fct)) (wc : List (Addr × CallR)) (wl : List (Addr × LineR)) (p : Int) (num : Str) (lk : Addr) (linked : List Int),
  a = .ref wd ∧ b = .int p ∧ c = .str num ∧ d = .ref lk ∧ WN L H wd A nums fr wc wl ∧ fr.length = nums.length ∧ wc.length ≤ 1000 ∧ At L H 0 lk (.lst (linked.map V.int)) ∧ linked.length ≤ 1000 ∧
  WPost L H wd nums fr (mStart ⟨nums, fr.map (·.2)⟩ ⟨wc.map (·.2), wl.map (·.2)⟩ p num linked) Q
theorem Step.mut0 {L : Lb} {H : Hp} {a : Addr} {o u : HO} (h : At L H 0 a o) (ht : ∀ xs, o ≠ .tup xs) : Step (fun n => n = 0) L H L (upd H a u) := Step.write h.1 ht h.2
theorem ok_law_start (T : Hd K mg) : OkD P w K mg base d_law_start 2 P_law_start (spLStart) := by
  obtain ⟨fd, F⟩ := T.says.def_ 52 (d := d_law_start) rfl
  obtain ⟨_, F_law_find, b_law_find, G_law_find⟩ := ok_law_find (P := P) (w := w) (base := base) T
  obtain ⟨_, F_law_refuse, b_law_refuse, G_law_refuse⟩ := ok_law_refuse (P := P) (w := w) (base := base) T
  obtain ⟨_, F_law_sides, b_law_sides, G_law_sides⟩ := ok_law_sides (P := P) (w := w) (base := base) T
  obtain ⟨_, F_law_goal, b_law_goal, G_law_goal⟩ := ok_law_goal (P := P) (w := w) (base := base) T
  refine ⟨fd, F, F.bindsN (ps := P_law_start) (fun _ _ _ _ _ _ us hl => match us, hl with | [_, _, _, _], _ => rfl), F.ok sc_law_start (fun vs H Q E h => sp4_len h) (fun cdv A outer s H vs Q E hr h => ?_)⟩
  have hu := hu_of hr
  obtain ⟨a, b, c, d, rfl, L, wd, B, nums, fr, wc, wl, p, num, lk, linked, rfl, rfl, rfl, rfl, N, hfl, hlen, hlk, hll, k⟩ := h
  refine ⟨_, PSs.nox (pss_cons (ps_if (pt_cmpR op_notN (pe_call G_law_find (hr.mono (by decide)) (by rfl) T.gl_law_find F_law_find.kp b_law_find .nil pass0 (pa_cons (pe_dget hu (pv 0) pe_str (fun _ _ => rfl)) (pa_cons (pv 1) pa_nil))) pe_non (nomark _)) (pss_one (ps_ret (pe_call G_law_refuse (hr.mono (by decide)) (by rfl) T.gl_law_refuse F_law_refuse.kp b_law_refuse .nil pass0 (pa_cons (pv 1) (pa_cons pe_int pa_nil))))) pss_nil) (pss_cons (ps_set (i := 4) sc_law_start.nd rfl (Or.inl rfl) (pe_op op_cat (pe_call G_law_sides (hr.mono (by decide)) (by rfl) T.gl_law_sides F_law_sides.kp b_law_sides .nil pass0 (pa_cons (pe_dget hu (pv 0) pe_str (fun _ _ => rfl)) pa_nil)) (pv 3))) (pss_cons (ps_asg (pe_call G_law_goal (hr.mono (by decide)) (by rfl) T.gl_law_goal F_law_goal.kp b_law_goal .nil pass0 (pa_cons (pe_dget hu (pv 0) pe_str (fun _ _ => rfl)) (pa_cons (pe_dget hu (pv 0) pe_str (fun _ _ => rfl)) (pa_cons (pv 2) (pa_cons (pv 1) (pa_cons (pv 4) (pa_cons pe_int pa_nil))))))) (pg_tup rfl (pgs_cons (pg_name (i := 5) sc_law_start.nd rfl (Or.inl rfl)) (pgs_cons (pg_name (i := 6) sc_law_start.nd rfl (Or.inl rfl)) (pgs_cons (pg_name (i := 7) sc_law_start.nd rfl (Or.inl rfl)) pgs_nil))))) (pss_cons (ps_if (pt_cmpR op_isN (pv 5) pe_non (nomark _)) (pss_one (ps_ret (pe_call G_law_refuse (hr.mono (by decide)) (by rfl) T.gl_law_refuse F_law_refuse.kp b_law_refuse .nil pass0 (pa_cons (pv 1) (pa_cons (pv 6) pa_nil))))) pss_nil) (pss_cons (ps_set (i := 8) sc_law_start.nd rfl (Or.inl rfl) (pe_disp (pps_cons pe_str (pv 1) (pps_cons pe_str (pv 5) (pps_cons pe_str pe_str (pps_cons pe_str (pv 7) (pps_cons pe_str pe_int (pps_cons pe_str pe_non pps_nil)))))) (by rfl) (by rfl) (fun z => by cases z) (by decide))) (pss_cons (ps_expr (pe_bm PySem.F.plainAttrs_list PySem.F.slot_list_append PySem.F.type_list_append mt_append (pe_dget hu (pv 0) pe_str (fun _ _ => rfl)) (pa_cons (pv 8) pa_nil))) (pss_one (ps_ret (pe_lst (pa_cons (pe_tup (pa_cons pe_str (pa_cons (pv 1) (pa_cons (pe_tup (pa_cons pe_str pa_nil)) pa_nil)))) (pa_cons (pe_tup (pa_cons pe_str (pa_cons (pv 5) pa_nil))) pa_nil))))))))))), ?_⟩
  refine ⟨_, rfl, _, _, rfl, dgCalls N.wd.1, _, rfl, _, _, rfl, L, wd, B, nums, fr, wc, wl, p, rfl, rfl, N, rfl, _, rfl, ?_⟩
  show (if (!decide (refO (findA wc p) = V.non)) = true then _ else _)
  rw [refO_isSome]
  cases e : findA wc p with
  | some x =>
    have em : mStart ⟨nums, fr.map (·.2)⟩ ⟨wc.map (·.2), wl.map (·.2)⟩ p num linked = (refuseD p 17, ⟨wc.map (·.2), wl.map (·.2)⟩) := by
      unfold mStart
      rw [if_pos (by rw [← findA_snd, e]; rfl)]
    rw [em] at k
    refine iteT ⟨_, rfl, _, _, rfl, p, 17, rfl, rfl, fun v H' n => ?_⟩
    exact WPost.end_ N n k
  | none =>
    refine iteF ?_
    refine ⟨_, rfl, _, _, rfl, dgCalls N.wd.1, _, rfl, L, wd, B, nums, fr, wc, wl, rfl, N, hlen, fun l1 H1 s1 hl1 hl1' => ?_⟩
    have hlk1 := hlk.same s1
    refine ⟨_, rfl, l1, lk, _, _, rfl, rfl, hl1', hlk1.1, ?_, fun l3 hl3 => ?_⟩
    · rw [List.length_map, List.length_map]
      have := sidesI_len (wc.map (·.2))
      rw [List.length_map] at this
      exact Nat.le_trans (show _ ≤ 3000 by omega) (by decide)
    have s3 : Same H (upd H1 l3 (.lst ((sidesI (wc.map (·.2))).map V.int ++ linked.map V.int))) := s1.trans (same_new hl3)
    have N3 := N.same s3
    refine ⟨_, rfl, _, _, rfl, dgNumbers N3.wd.1, _, rfl, _, _, rfl, dgFacts N3.wd.1, _, rfl, _, rfl, _, rfl, _, _, _, _, _, _, rfl, L, wd, B, nums, fr, wc, wl, num, p, l3, sidesI (wc.map (·.2)) ++ linked, 0, rfl, rfl, rfl, rfl, rfl, rfl, N3, hfl, ?_, fun t H4 s4 ht => ?_⟩
    · refine SqL.of ?_
      rw [List.map_append]
      exact upd_same
    have N4 := N3.same s4
    have s04 := s3.trans s4
    have k4 := k.ext s04
    refine ⟨t, _, rfl, SqT.of ht, rfl, _, _, rfl, _, _, rfl, _, _, rfl, rfl, ?_⟩
    have ef : (findC (wc.map (·.2)) p).isSome = false := by rw [← findA_snd, e]; rfl
    cases eg : goalN nums (fr.map (·.2)) p (sidesI (wc.map (·.2)) ++ linked) 4 num 0 with
    | mk g r =>
      obtain ⟨c0, h0⟩ := r
      refine ⟨_, rfl, rfl, _, rfl, ?_⟩
      show (if decide (oI g = V.non) = true then _ else _)
      rw [oI_non]
      cases g with
      | none =>
        have em : mStart ⟨nums, fr.map (·.2)⟩ ⟨wc.map (·.2), wl.map (·.2)⟩ p num linked = (refuseD p c0, ⟨wc.map (·.2), wl.map (·.2)⟩) := by
          unfold mStart
          simp only [eg, ef]
          rw [if_neg Bool.false_ne_true]
        rw [em] at k4
        refine iteT ⟨_, rfl, _, rfl, _, _, rfl, p, c0, rfl, rfl, fun v H' n => ?_⟩
        exact WPost.end_ N4 n k4
      | some g =>
        have em : mStart ⟨nums, fr.map (·.2)⟩ ⟨wc.map (·.2), wl.map (·.2)⟩ p num linked = ([tellD p (.tuple [.str "proceeding"]), pageD g], ⟨wc.map (·.2) ++ [⟨p, some g, .looking, h0, 0, none⟩], wl.map (·.2)⟩) := by
          unfold mStart
          simp only [eg, ef]
          rw [if_neg Bool.false_ne_true]
        rw [em] at k4
        refine iteF ?_
        intro x hx
        refine ⟨_, rfl, _, rfl, _, rfl, upd_same, [(Sum.inr "caller", .int p), (Sum.inr "called", .int g), (Sum.inr "state", .str "looking"), (Sum.inr "hops", .int h0), (Sum.inr "since", .int 0), (Sum.inr "line", .non)], rfl, by show 6 ≤ 15; decide, ?_⟩
        have s5 : Same H4 (upd (upd H4 x (.dK [])) x (.dK (mergeK [] [(Sum.inr "caller", .int p), (Sum.inr "called", .int g), (Sum.inr "state", .str "looking"), (Sum.inr "hops", .int h0), (Sum.inr "since", .int 0), (Sum.inr "line", .non)]))) := by
          rw [upd_upd]
          exact same_new hx
        have hx5 : (upd (upd H4 x (.dK [])) x (.dK (mergeK [] [(Sum.inr "caller", .int p), (Sum.inr "called", .int g), (Sum.inr "state", .str "looking"), (Sum.inr "hops", .int h0), (Sum.inr "since", .int 0), (Sum.inr "line", .non)]))) x = some (.dK (callKvs ⟨p, some g, .looking, h0, 0, none⟩)) := upd_same
        have N5' := N4.same s5
        refine ⟨_, rfl, _, _, rfl, dgCalls N5'.wd.1, .inl ⟨rfl, _, SqL.of N5'.cl.1⟩, _, rfl, B.cl, _, _, rfl, rfl, N5'.cl.1, by rw [List.length_map]; exact small1000 hlen, ?_⟩
        have N5 := N4.add s5 hx hx5
        have st5 := Step.waddCall (S := S17) (o := .lst ((wc.map fun x => V.ref x.1) ++ [.ref x])) N4 s5 hx ⟨by decide, by decide⟩
        have k5 := k4.after st5
        refine ⟨_, rfl, by show 1 ≤ sizeLine; decide, fun m hm => ⟨by show 3 ≤ sizeLine; decide, fun u hu => ⟨_, rfl, by show 2 ≤ sizeLine; decide, fun u2 hu2 => ⟨by show 2 ≤ sizeLine; decide, fun l hl => ?_⟩⟩⟩⟩
        refine WPost.end_ N5 ⟨(((same_new hm).trans (same_new hu)).trans (same_new hu2)).trans (same_new hl), l, _, rfl, upd_free (upd_free (upd_free hl)), upd_same, ?_⟩ (by rw [List.map_append]; exact k5)
        exact .cons (.tup (upd_old (upd_old upd_same hu2) hl) (.cons (.str _) (.cons (.int _) (.cons (.tup (upd_old (upd_old (upd_old upd_same hu) hu2) hl) (.cons (.str _) .nil)) .nil)))) (.cons (.tup (upd_old upd_same hl) (.cons (.str _) (.cons (.int _) .nil))) .nil)
/-- what the law's events lean on -/
structure WEv (L : Lb) (H : Hp) (wd : Addr) (A : WA) (nums : List Str) (fr : List (Addr × Fct)) (wc : List (Addr × CallR)) (wl : List (Addr × LineR)) : Prop where
  N : WN L H wd A nums fr wc wl
  nd : (sidesI (wc.map (·.2))).Nodup
def spLCalled : Sp := sp4 fun a b c d H Q => ∃ (L : Lb) (wd : Addr) (A : WA) (nums : List Str) (fr : List (Addr × Fct)) (wc : List (Addr × CallR)) (wl : List (Addr × LineR)) (ek : Ek) (p t : Int),
  a = .ref wd ∧ b = .str ek.s ∧ c = .int p ∧ d = .int t ∧ WEv L H wd A nums fr wc wl ∧ (∀ x ∈ wc, 0 ≤ x.2.caller ∧ x.2.caller < nums.length) ∧
  WPost L H wd nums fr (mCalled ⟨nums, fr.map (·.2)⟩ ⟨wc.map (·.2), wl.map (·.2)⟩ ek p t) Q
theorem ok_law_called (T : Hd K mg) : OkD P w K mg base d_law_called 2 P_law_called (spLCalled) := by
  obtain ⟨fd, F⟩ := T.says.def_ 53 (d := d_law_called) rfl
  obtain ⟨_, F_law_find, b_law_find, G_law_find⟩ := ok_law_find (P := P) (w := w) (base := base) T
  refine ⟨fd, F, F.bindsN (ps := P_law_called) (fun _ _ _ _ _ _ us hl => match us, hl with | [_, _, _, _], _ => rfl), F.ok sc_law_called (fun vs H Q E h => sp4_len h) (fun cdv A outer s H vs Q E hr h => ?_)⟩
  have hu := hu_of hr
  obtain ⟨a, b, c, d, rfl, L, wd, B, nums, fr, wc, wl, ek, p, tk, rfl, rfl, rfl, rfl, ⟨N, hnd⟩, hval, k⟩ := h
  refine ⟨_, PSs.nox (pss_cons (ps_set (i := 4) sc_law_called.nd rfl (Or.inl rfl) (pe_call G_law_find (hr.mono (by decide)) (by rfl) T.gl_law_find F_law_find.kp b_law_find .nil pass0 (pa_cons (pe_dget hu (pv 0) pe_str (fun _ _ => rfl)) (pa_cons (pv 2) pa_nil)))) (pss_cons (ps_if ((pw_or (pt_cmpR op_isN (pv 4) pe_non (nomark _)) (pw_or1 (pt_cmpR op_ne (pe_dget hu (pv 4) pe_str (fun _ _ => rfl)) (pv 2) (nomark _))))).pt (pss_one (ps_ret (pe_lst pa_nil))) pss_nil) (pss_cons (ps_if ((pw_and (pt_cmpR op_eq (pv 1) pe_str (nomark _)) (pw_and1 (pt_cmpR op_eq (pe_dget hu (pv 4) pe_str (fun _ _ => rfl)) pe_str (nomark _))))).pt (pss_cons (ps_dput hu (pv 4) pe_str pe_str rfl) (pss_cons (ps_dput hu (pv 4) pe_str (pv 3) rfl) (pss_one (ps_ret (pe_lst (pa_cons (pe_tup (pa_cons pe_str (pa_cons (pv 2) (pa_cons (pe_tup (pa_cons pe_str (pa_cons (pe_ix ix_list (pe_dget hu (pv 0) pe_str (fun _ _ => rfl)) (pe_dget hu (pv 4) pe_str (fun _ _ => rfl)) (fun _ _ => rfl)) pa_nil))) pa_nil)))) pa_nil)))))) pss_nil) (pss_cons (ps_if ((pw_and (pt_cmpR op_eq (pv 1) pe_str (nomark _)) (pw_and1 (pt_cmpR op_eq (pe_dget hu (pv 4) pe_str (fun _ _ => rfl)) pe_str (nomark _))))).pt (pss_cons (ps_dput hu (pv 4) pe_str pe_str rfl) (pss_one (ps_ret (pe_lst (pa_cons (pe_tup (pa_cons pe_str (pa_cons (pe_dget hu (pv 4) pe_str (fun _ _ => rfl)) (pa_cons (pe_tup (pa_cons pe_str pa_nil)) pa_nil)))) pa_nil))))) pss_nil) (pss_cons (ps_if ((pw_and (pt_cmpR op_eq (pv 1) pe_str (nomark _)) (pw_and1 (pt_cmpR op_in_seq (pe_dget hu (pv 4) pe_str (fun _ _ => rfl)) (pe_tup (pa_cons pe_str (pa_cons pe_str pa_nil))) rfl)))).pt (pss_cons (ps_dput hu (pv 4) pe_str pe_str rfl) (pss_one (ps_ret (pe_lst (pa_cons (pe_tup (pa_cons pe_str (pa_cons (pv 2) (pa_cons (pe_tup (pa_cons pe_str pa_nil)) pa_nil)))) (pa_cons (pe_tup (pa_cons pe_str (pa_cons (pe_dget hu (pv 4) pe_str (fun _ _ => rfl)) (pa_cons (pe_tup (pa_cons pe_str pa_nil)) pa_nil)))) pa_nil)))))) pss_nil) (pss_one (ps_ret (pe_lst pa_nil)))))))), ?_⟩
  refine ⟨_, rfl, _, _, rfl, dgCalls N.wd.1, _, rfl, _, _, rfl, L, wd, B, nums, fr, wc, wl, p, rfl, rfl, N, ?_⟩
  cases e : findA wc p with
  | none =>
    have em : mCalled ⟨nums, fr.map (·.2)⟩ ⟨wc.map (·.2), wl.map (·.2)⟩ ek p tk = ([], ⟨wc.map (·.2), wl.map (·.2)⟩) := by
      have q : findC (wc.map (·.2)) p = none := by rw [← findA_snd, e]; rfl
      cases ek <;> simp only [mCalled, mAnswered, mAlerting, mConnect, q]
    refine ⟨_, rfl, rfl, _, rfl, iteT (iteT ?_)⟩
    refine ⟨Nat.zero_le _, fun l hl => ?_⟩
    rw [em] at k
    exact WPost.end_ N (new_nil hl) k
  | some x =>
    have hx := findA_mem e
    obtain ⟨cA, r⟩ := x
    have hc := N.calls _ hx
    have q : findC (wc.map (·.2)) p = some r := by rw [← findA_snd, e]; rfl
    refine ⟨_, rfl, rfl, _, rfl, iteF ?_⟩
    refine ⟨_, rfl, _, _, rfl, dgCalled hc.1, _, rfl, scal_oI2 _ _, _, rfl, ?_⟩
    show (if (!decide (oI r.called = V.int p)) = true then _ else _)
    rw [oI_eq]
    cases h1 : decide (r.called = some p) with
    | false =>
      have h1' := of_decide_eq_false h1
      have em : mCalled ⟨nums, fr.map (·.2)⟩ ⟨wc.map (·.2), wl.map (·.2)⟩ ek p tk = ([], ⟨wc.map (·.2), wl.map (·.2)⟩) := by
        cases ek <;> simp only [mCalled, mAnswered, mAlerting, mConnect, q] <;> rw [if_neg (fun z => h1' z.1)]
      refine iteT ?_
      refine ⟨Nat.zero_le _, fun l hl => ?_⟩
      rw [em] at k
      exact WPost.end_ N (new_nil hl) k
    | true =>
      have h1' := of_decide_eq_true h1
      refine iteF ?_
      refine ⟨_, rfl, rfl, _, rfl, ?_⟩
      show (if decide (V.str ek.s = V.str Ek.answered.s) = true then _ else _)
      rw [eqEk]
      by_cases k1 : ek = .answered
      · subst k1
        refine iteT ⟨_, rfl, _, _, rfl, dgState hc.1, rfl, _, rfl, ?_⟩
        show (if decide (V.str r.st.s = V.str Stg.looking.s) = true then _ else _)
        rw [eqStg]
        cases h2 : decide (r.st = .looking) with
        | true =>
          have em : mCalled ⟨nums, fr.map (·.2)⟩ ⟨wc.map (·.2), wl.map (·.2)⟩ .answered p tk = ([tellD p (.tuple [.str "setup", .str (nums.getD r.caller.toNat Str.empty)])], ⟨updC (wc.map (·.2)) r.caller { r with st := .offered, since := tk }, wl.map (·.2)⟩) := by
            simp only [mCalled, mAnswered, q]
            rw [if_pos ⟨h1', of_decide_eq_true h2⟩]
          rw [em] at k
          refine iteT ⟨_, rfl, _, _, rfl, dpState hc.1 .offered, ?_⟩
          refine ⟨_, rfl, _, rfl, _, _, rfl, dpSince upd_same tk, ?_⟩
          have eH : ∀ H : Hp, upd (upd H cA (.dK (callKvs { r with st := .offered }))) cA (.dK (callKvs { r with st := .offered, since := tk })) = upd H cA (.dK (callKvs { r with st := .offered, since := tk })) := fun H => upd_upd
          rw [eH]
          have N2 := N.setCall (r' := { r with st := .offered, since := tk }) hx
          have hc2 := (N2.calls (cA, { r with st := .offered, since := tk }) (mem_setA_same hx)).1
          obtain ⟨v0, v1⟩ := hval _ hx
          obtain ⟨i, hi⟩ : ∃ i : Nat, r.caller = (i : Int) := ⟨r.caller.toNat, by have : 0 ≤ r.caller := v0; omega⟩
          have hil : i < nums.length := by have : r.caller < nums.length := v1; omega
          have en : nums.getD r.caller.toNat Str.empty = nums[i] := by
            rw [hi, Int.toNat_natCast, List.getD_eq_getElem?_getD, List.getElem?_eq_getElem hil]
            rfl
          rw [en] at k
          refine ⟨_, rfl, _, rfl, _, _, rfl, dgNumbers N2.wd.1, _, rfl, _, _, rfl, dgCaller hc2, B.nl, _, _, _, rfl, rfl, SqL.of N2.nl.1, at_of (j := i) (v := .str nums[i]) hi (by rw [List.getElem?_map, List.getElem?_eq_getElem hil]; rfl), ?_⟩
          refine ⟨by show 2 ≤ sizeLine; decide, fun m hm => ⟨by show 3 ≤ sizeLine; decide, fun u hu => ⟨by show 1 ≤ sizeLine; decide, fun l hl => ?_⟩⟩⟩
          refine WPost.call N hx hnd ⟨((same_new hm).trans (same_new hu)).trans (same_new hl), l, _, rfl, upd_free (upd_free hl), upd_same, ?_⟩ k
          exact .cons (.tup (upd_old upd_same hl) (.cons (.str _) (.cons (.int _) (.cons (.tup (upd_old (upd_old upd_same hu) hl) (.cons (.str _) (.cons (.str _) .nil))) .nil)))) .nil
        | false =>
          have em : mCalled ⟨nums, fr.map (·.2)⟩ ⟨wc.map (·.2), wl.map (·.2)⟩ .answered p tk = ([], ⟨wc.map (·.2), wl.map (·.2)⟩) := by
            simp only [mCalled, mAnswered, q]
            rw [if_neg (fun z => of_decide_eq_false h2 z.2)]
          refine iteF ?_
          refine ⟨_, rfl, rfl, _, rfl, iteF (iteF ?_)⟩
          refine ⟨_, rfl, rfl, _, rfl, iteF (iteF ?_)⟩
          refine ⟨Nat.zero_le _, fun l hl => ?_⟩
          rw [em] at k
          exact WPost.end_ N (new_nil hl) k
      · rw [decide_eq_false k1]
        refine iteF (iteF ?_)
        refine ⟨_, rfl, rfl, _, rfl, ?_⟩
        show (if decide (V.str ek.s = V.str Ek.alerting.s) = true then _ else _)
        rw [eqEk]
        by_cases k2 : ek = .alerting
        · subst k2
          refine iteT ⟨_, rfl, _, _, rfl, dgState hc.1, rfl, _, rfl, ?_⟩
          show (if decide (V.str r.st.s = V.str Stg.offered.s) = true then _ else _)
          rw [eqStg]
          cases h2 : decide (r.st = .offered) with
          | true =>
            have em : mCalled ⟨nums, fr.map (·.2)⟩ ⟨wc.map (·.2), wl.map (·.2)⟩ .alerting p tk = ([tellD r.caller (.tuple [.str "alerting"])], ⟨updC (wc.map (·.2)) r.caller { r with st := .ringing }, wl.map (·.2)⟩) := by
              simp only [mCalled, mAlerting, q]
              rw [if_pos ⟨h1', of_decide_eq_true h2⟩]
            rw [em] at k
            refine iteT ⟨_, rfl, _, _, rfl, dpState hc.1 .ringing, ?_⟩
            refine ⟨_, rfl, _, _, rfl, dgCaller upd_same, ?_⟩
            refine ⟨by show 1 ≤ sizeLine; decide, fun m hm => ⟨by show 3 ≤ sizeLine; decide, fun u hu => ⟨by show 1 ≤ sizeLine; decide, fun l hl => ?_⟩⟩⟩
            refine WPost.call (r' := { r with st := .ringing }) N hx hnd ⟨((same_new hm).trans (same_new hu)).trans (same_new hl), l, _, rfl, upd_free (upd_free hl), upd_same, ?_⟩ k
            exact .cons (.tup (upd_old upd_same hl) (.cons (.str _) (.cons (.int _) (.cons (.tup (upd_old (upd_old upd_same hu) hl) (.cons (.str _) .nil)) .nil)))) .nil
          | false =>
            have em : mCalled ⟨nums, fr.map (·.2)⟩ ⟨wc.map (·.2), wl.map (·.2)⟩ .alerting p tk = ([], ⟨wc.map (·.2), wl.map (·.2)⟩) := by
              simp only [mCalled, mAlerting, q]
              rw [if_neg (fun z => of_decide_eq_false h2 z.2)]
            refine iteF ?_
            refine ⟨_, rfl, rfl, _, rfl, iteF (iteF ?_)⟩
            refine ⟨Nat.zero_le _, fun l hl => ?_⟩
            rw [em] at k
            exact WPost.end_ N (new_nil hl) k
        · rw [decide_eq_false k2]
          refine iteF (iteF ?_)
          refine ⟨_, rfl, rfl, _, rfl, ?_⟩
          show (if decide (V.str ek.s = V.str Ek.connect.s) = true then _ else _)
          rw [eqEk]
          by_cases k3 : ek = .connect
          · subst k3
            refine iteT ⟨_, rfl, _, _, rfl, dgState hc.1, by show 2 ≤ sizeLine; decide, fun t ht => ⟨_, _, rfl, .inr (SqT.of upd_same), rfl, rfl, _, rfl, ?_⟩⟩
            show (if inV (.str r.st.s) [.str Stg.offered.s, .str Stg.ringing.s] = true then _ else _)
            rw [in2]
            have s1 := same_new (o := .tup [.str "offered", .str "ringing"]) ht
            have N1 := N.same s1
            have k1 := k.ext s1
            have hc1 := hc.same s1
            cases h2 : (decide (r.st = .offered) || decide (r.st = .ringing)) with
            | true =>
              have em : mCalled ⟨nums, fr.map (·.2)⟩ ⟨wc.map (·.2), wl.map (·.2)⟩ .connect p tk = ([tellD p (.tuple [.str "connect done"]), tellD r.caller (.tuple [.str "connect"])], ⟨updC (wc.map (·.2)) r.caller { r with st := .answered }, wl.map (·.2)⟩) := by
                simp only [mCalled, mConnect, q]
                rw [if_pos ⟨h1', by simpa using h2⟩]
              rw [em] at k1
              refine iteT ⟨_, rfl, _, _, rfl, dpState hc1.1 .answered, ?_⟩
              refine ⟨_, rfl, by show 1 ≤ sizeLine; decide, fun m hm => ⟨by show 3 ≤ sizeLine; decide, fun u hu => ⟨_, rfl, _, _, rfl, dgCaller (upd_old (upd_old upd_same hm) hu), by show 1 ≤ sizeLine; decide, fun m2 hm2 => ⟨by show 3 ≤ sizeLine; decide, fun u2 hu2 => ⟨by show 2 ≤ sizeLine; decide, fun l hl => ?_⟩⟩⟩⟩⟩
              refine WPost.call (r' := { r with st := .answered }) N1 hx hnd ⟨((((same_new hm).trans (same_new hu)).trans (same_new hm2)).trans (same_new hu2)).trans (same_new hl), l, _, rfl, upd_free (upd_free (upd_free (upd_free hl))), upd_same, ?_⟩ k1
              refine .cons (.tup (upd_old (upd_old (upd_old upd_same hm2) hu2) hl) (.cons (.str _) (.cons (.int _) (.cons (.tup (upd_old (upd_old (upd_old (upd_old upd_same hu) hm2) hu2) hl) (.cons (.str _) .nil)) .nil)))) (.cons (.tup (upd_old upd_same hl) (.cons (.str _) (.cons (.int _) (.cons (.tup (upd_old (upd_old upd_same hu2) hl) (.cons (.str _) .nil)) .nil)))) .nil)
            | false =>
              have em : mCalled ⟨nums, fr.map (·.2)⟩ ⟨wc.map (·.2), wl.map (·.2)⟩ .connect p tk = ([], ⟨wc.map (·.2), wl.map (·.2)⟩) := by
                simp only [mCalled, mConnect, q]
                rw [if_neg (by intro z; have := z.2; simp at h2; exact this.elim h2.1 h2.2)]
              refine iteF ⟨Nat.zero_le _, fun l hl => ?_⟩
              rw [em] at k1
              exact WPost.end_ N1 (new_nil hl) k1
          · rw [decide_eq_false k3]
            have em : mCalled ⟨nums, fr.map (·.2)⟩ ⟨wc.map (·.2), wl.map (·.2)⟩ ek p tk = ([], ⟨wc.map (·.2), wl.map (·.2)⟩) := by
              cases ek <;> first | rfl | exact absurd rfl k1 | exact absurd rfl k2 | exact absurd rfl k3
            refine iteF (iteF ?_)
            refine ⟨Nat.zero_le _, fun l hl => ?_⟩
            rw [em] at k
            exact WPost.end_ N (new_nil hl) k
def spLConnected : Sp := sp3 fun a b c H Q => ∃ (L : Lb) (wd : Addr) (A : WA) (nums : List Str) (fr : List (Addr × Fct)) (wc : List (Addr × CallR)) (wl : List (Addr × LineR)) (p t : Int),
  a = .ref wd ∧ b = .int p ∧ c = .int t ∧ WEv L H wd A nums fr wc wl ∧ (∀ x ∈ wc, ∃ g, x.2.called = some g) ∧ wl.length ≤ 1000 ∧ WPost L H wd nums fr (mConnected ⟨wc.map (·.2), wl.map (·.2)⟩ p t) Q
theorem ok_law_connected (T : Hd K mg) : OkD P w K mg base d_law_connected 2 P_law_connected (spLConnected) := by
  obtain ⟨fd, F⟩ := T.says.def_ 54 (d := d_law_connected) rfl
  obtain ⟨_, F_law_find, b_law_find, G_law_find⟩ := ok_law_find (P := P) (w := w) (base := base) T
  refine ⟨fd, F, F.bindsN (ps := P_law_connected) (fun _ _ _ _ _ _ us hl => match us, hl with | [_, _, _], _ => rfl), F.ok sc_law_connected (fun vs H Q E h => sp3_len h) (fun cdv A outer s H vs Q E hr h => ?_)⟩
  have hu := hu_of hr
  obtain ⟨a, b, c, rfl, L, wd, B, nums, fr, wc, wl, p, tk, rfl, rfl, rfl, ⟨N, hnd⟩, hcd, hwl, k⟩ := h
  refine ⟨_, PSs.nox (pss_cons (ps_set (i := 3) sc_law_connected.nd rfl (Or.inl rfl) (pe_call G_law_find (hr.mono (by decide)) (by rfl) T.gl_law_find F_law_find.kp b_law_find .nil pass0 (pa_cons (pe_dget hu (pv 0) pe_str (fun _ _ => rfl)) (pa_cons (pv 1) pa_nil)))) (pss_cons (ps_if ((pw_and (pt_cmpR op_notN (pv 3) pe_non (nomark _)) (pw_and (pt_cmpR op_eq (pe_dget hu (pv 3) pe_str (fun _ _ => rfl)) (pv 1) (nomark _)) (pw_and1 (pt_cmpR op_eq (pe_dget hu (pv 3) pe_str (fun _ _ => rfl)) pe_str (nomark _)))))).pt (pss_cons (ps_dput hu (pv 3) pe_str pe_str rfl) (pss_cons (ps_dput hu (pv 3) pe_str (pe_callB call_len_seq (by rfl) T.fr_len PySem.boot_len (pa_cons (pe_dget hu (pv 0) pe_str (fun _ _ => rfl)) pa_nil)) rfl) (pss_one (ps_expr (pe_bm PySem.F.plainAttrs_list PySem.F.slot_list_append PySem.F.type_list_append mt_append (pe_dget hu (pv 0) pe_str (fun _ _ => rfl)) (pa_cons (pe_tup (pa_cons (pv 1) (pa_cons (pe_dget hu (pv 3) pe_str (fun _ _ => rfl)) (pa_cons (pv 2) (pa_cons pe_non (pa_cons pe_non pa_nil)))))) pa_nil)))))) pss_nil) (pss_one (ps_ret (pe_lst pa_nil))))), ?_⟩
  refine ⟨_, rfl, _, _, rfl, dgCalls N.wd.1, _, rfl, _, _, rfl, L, wd, B, nums, fr, wc, wl, p, rfl, rfl, N, ?_⟩
  cases e : findA wc p with
  | none =>
    have em : mConnected ⟨wc.map (·.2), wl.map (·.2)⟩ p tk = ([], ⟨wc.map (·.2), wl.map (·.2)⟩) := by
      unfold mConnected
      simp only [← findA_snd, e, Option.map_none]
    refine ⟨_, rfl, rfl, _, rfl, iteF (iteF ?_)⟩
    refine ⟨Nat.zero_le _, fun l hl => ?_⟩
    rw [em] at k
    exact WPost.end_ N (new_nil hl) k
  | some x =>
    have hx := findA_mem e
    have hc := N.calls x hx
    obtain ⟨g, hg⟩ := hcd x hx
    refine ⟨_, rfl, rfl, _, rfl, iteT ?_⟩
    refine ⟨_, rfl, _, _, rfl, dgCaller hc.1, _, rfl, rfl, _, rfl, ?_⟩
    rw [decVI]
    have no : ¬ (x.2.caller = p ∧ x.2.st = .answered) → (∀ l, H l = none → Q (.ref l) (upd H l (.lst []))) := fun z l hl => by
      have em : mConnected ⟨wc.map (·.2), wl.map (·.2)⟩ p tk = ([], ⟨wc.map (·.2), wl.map (·.2)⟩) := by
        unfold mConnected
        simp only [← findA_snd, e, Option.map_some]
        rw [if_neg z]
      rw [em] at k
      exact WPost.end_ N (new_nil hl) k
    cases h1 : decide (x.2.caller = p) with
    | false =>
      refine iteF (iteF ⟨Nat.zero_le _, ?_⟩)
      exact no fun z => of_decide_eq_false h1 z.1
    | true =>
      refine iteT ⟨_, rfl, _, _, rfl, dgState hc.1, rfl, _, rfl, ?_⟩
      show (if decide (V.str x.2.st.s = V.str Stg.answered.s) = true then _ else _)
      rw [eqStg]
      cases h2 : decide (x.2.st = .answered) with
      | false =>
        refine iteF ⟨Nat.zero_le _, ?_⟩
        exact no fun z => of_decide_eq_false h2 z.2
      | true =>
        obtain ⟨cA, r⟩ := x
        have ep : r.caller = p := of_decide_eq_true h1
        have em : mConnected ⟨wc.map (·.2), wl.map (·.2)⟩ p tk = ([], ⟨updC (wc.map (·.2)) r.caller { r with st := .active, line := some wl.length }, wl.map (·.2) ++ [⟨r.caller, g, tk, none⟩]⟩) := by
          unfold mConnected
          simp only [← findA_snd, e, Option.map_some]
          rw [if_pos ⟨of_decide_eq_true h1, of_decide_eq_true h2⟩, show r.called = some g from hg, List.length_map]
          rfl
        rw [em] at k
        have N1 := N.setCall (r' := { r with st := .active }) hx
        have st1 := Step.wcall (S := S17) N (r' := { r with st := .active }) hx ⟨by decide, by decide⟩
        have hx1 : (cA, { r with st := .active }) ∈ setA wc cA { r with st := .active } := mem_setA_same hx
        refine iteT ⟨_, rfl, _, _, rfl, dpState hc.1 .active, ?_⟩
        have hc1 := (N1.calls _ hx1).1
        refine ⟨_, rfl, _, _, rfl, dgLines N1.wd.1, _, _, rfl, .inl (SqL.of N1.ll.1), _, rfl, _, _, rfl, dpLine hc1 _, ?_⟩
        have N2 := N1.setCall (r' := { r with st := .active, line := some (wl.map fun x => V.ref x.1).length }) hx1
        have st2 := Step.wcall (S := S17) N1 (r' := { r with st := .active, line := some (wl.map fun x => V.ref x.1).length }) hx1 ⟨by decide, by decide⟩
        rw [setA_twice] at N2
        have hx2 : (cA, { r with st := .active, line := some (wl.map fun x => V.ref x.1).length }) ∈ setA wc cA { r with st := .active, line := some (wl.map fun x => V.ref x.1).length } := mem_setA_same hx
        have hc2 := (N2.calls _ hx2).1
        refine ⟨_, rfl, _, _, rfl, dgLines N2.wd.1, .inl ⟨rfl, _, SqL.of N2.ll.1⟩, _, rfl, _, rfl, _, _, rfl, dgCalled hc2, _, rfl, by show 5 ≤ sizeLine; decide, fun t ht => ?_⟩
        refine ⟨B.ll, _, _, rfl, rfl, upd_old N2.ll.1 ht, by rw [List.length_map]; exact small1000 hwl, ?_⟩
        have N3 := N2.addLine (t := t) (l := ⟨r.caller, g, tk, none⟩) ht
        have st3 := Step.wbook (S := S17) N2 (t := t) (o := .tup (lineV ⟨r.caller, g, tk, none⟩)) (u := .lst ((wl.map fun x => V.ref x.1) ++ [.ref t])) ht ⟨by decide, by decide⟩
        have k3 := ((k.after st1).after st2).after st3
        have e3 : (setA wc cA { r with st := .active, line := some (wl.map fun x => V.ref x.1).length }).map (·.2) = updC (wc.map (·.2)) r.caller { r with st := .active, line := some wl.length } := by
          rw [List.length_map]
          exact setA_snd hnd N.nd hx _
        have eT : ([V.int p, oI r.called, V.int tk, V.non, V.non] : List V) = lineV ⟨r.caller, g, tk, none⟩ := by rw [show r.called = some g from hg, ep]; rfl
        refine ⟨Nat.zero_le _, fun l hl => ?_⟩
        refine WPost.end_ N3 (v := .ref l) (ds := []) ?_ (by rw [e3, List.map_append]; exact k3)
        rw [← eT]
        exact new_nil hl
def spLWord : Sp := sp3 fun a b c H Q => ∃ (L : Lb) (wd : Addr) (A : WA) (nums : List Str) (fr : List (Addr × Fct)) (wc : List (Addr × CallR)) (wl : List (Addr × LineR)) (p : Int) (w : PyData),
  a = .ref wd ∧ b = .int p ∧ TD H c w ∧ WN L H wd A nums fr wc wl ∧ (∀ x ∈ wc, ∃ g, x.2.called = some g) ∧ WPost L H wd nums fr (mWord ⟨wc.map (·.2), wl.map (·.2)⟩ p w) Q
theorem ok_law_word (T : Hd K mg) : OkD P w K mg base d_law_word 2 P_law_word (spLWord) := by
  obtain ⟨fd, F⟩ := T.says.def_ 56 (d := d_law_word) rfl
  obtain ⟨_, F_law_find, b_law_find, G_law_find⟩ := ok_law_find (P := P) (w := w) (base := base) T
  obtain ⟨_, F_law_other, b_law_other, G_law_other⟩ := ok_law_other (P := P) (w := w) (base := base) T
  refine ⟨fd, F, F.bindsN (ps := P_law_word) (fun _ _ _ _ _ _ us hl => match us, hl with | [_, _, _], _ => rfl), F.ok sc_law_word (fun vs H Q E h => sp3_len h) (fun cdv A outer s H vs Q E hr h => ?_)⟩
  have hu := hu_of hr
  obtain ⟨a, b, c, rfl, L, wd, B, nums, fr, wc, wl, p, w, rfl, rfl, hw, N, hcd, k⟩ := h
  refine ⟨_, PSs.nox (pss_cons (ps_set (i := 3) sc_law_word.nd rfl (Or.inl rfl) (pe_call G_law_find (hr.mono (by decide)) (by rfl) T.gl_law_find F_law_find.kp b_law_find .nil pass0 (pa_cons (pe_dget hu (pv 0) pe_str (fun _ _ => rfl)) (pa_cons (pv 1) pa_nil)))) (pss_cons (ps_if ((pw_or (pt_cmpR op_isN (pv 3) pe_non (nomark _)) (pw_or1 (pt_cmpR op_notIn_seq (pe_dget hu (pv 3) pe_str (fun _ _ => rfl)) (pe_tup (pa_cons pe_str (pa_cons pe_str pa_nil))) rfl)))).pt (pss_one (ps_ret (pe_lst pa_nil))) pss_nil) (pss_one (ps_ret (pe_lst (pa_cons (pe_tup (pa_cons pe_str (pa_cons (pe_call G_law_other (hr.mono (by decide)) (by rfl) T.gl_law_other F_law_other.kp b_law_other .nil pass0 (pa_cons (pv 3) (pa_cons (pv 1) pa_nil))) (pa_cons (pe_tup (pa_cons pe_str (pa_cons (pv 2) pa_nil))) pa_nil)))) pa_nil)))))), ?_⟩
  refine ⟨_, rfl, _, _, rfl, dgCalls N.wd.1, _, rfl, _, _, rfl, L, wd, B, nums, fr, wc, wl, p, rfl, rfl, N, ?_⟩
  cases e : findA wc p with
  | none =>
    have em : mWord ⟨wc.map (·.2), wl.map (·.2)⟩ p w = ([], ⟨wc.map (·.2), wl.map (·.2)⟩) := by
      unfold mWord
      simp only [← findA_snd, e, Option.map_none]
    refine ⟨_, rfl, rfl, _, rfl, iteT (iteT ?_)⟩
    refine ⟨Nat.zero_le _, fun l hl => ?_⟩
    rw [em] at k
    exact WPost.end_ N (new_nil hl) k
  | some x =>
    have hx := findA_mem e
    have hc := N.calls x hx
    refine ⟨_, rfl, rfl, _, rfl, iteF ?_⟩
    refine ⟨_, rfl, _, _, rfl, dgState hc.1, by show 2 ≤ sizeLine; decide, fun t ht => ⟨_, _, rfl, .inr (SqT.of upd_same), rfl, rfl, _, rfl, ?_⟩⟩
    show (if (!inV (.str x.2.st.s) [.str Stg.answered.s, .str Stg.active.s]) = true then _ else _)
    rw [in2]
    have s1 := same_new (o := .tup [.str "answered", .str "active"]) ht
    have k1 := k.ext s1
    have N1 := N.same s1
    have hw1 := hw.same s1
    have hc1 := hc.same s1
    clear k
    cases h1 : (decide (x.2.st = .answered) || decide (x.2.st = .active)) with
    | false =>
      have em : mWord ⟨wc.map (·.2), wl.map (·.2)⟩ p w = ([], ⟨wc.map (·.2), wl.map (·.2)⟩) := by
        unfold mWord
        simp only [← findA_snd, e, Option.map_some]
        rw [if_neg (by simpa using h1)]
      rw [em] at k1
      refine iteT ⟨Nat.zero_le _, fun l hl => ?_⟩
      exact WPost.end_ N1 (new_nil hl) k1
    | true =>
      have em : mWord ⟨wc.map (·.2), wl.map (·.2)⟩ p w = ([tellD ((otherI x.2 p).getD 0) (.tuple [.str "word", w])], ⟨wc.map (·.2), wl.map (·.2)⟩) := by
        unfold mWord
        simp only [← findA_snd, e, Option.map_some]
        rw [if_pos (by simpa using h1)]
      rw [em] at k1
      refine iteF ⟨_, rfl, _, rfl, _, _, rfl, x.1, x.2, p, rfl, rfl, hc1.1, ?_⟩
      rw [otherI_some (hcd x hx)]
      refine ⟨_, rfl, by show 2 ≤ sizeLine; decide, fun m hm => ⟨by show 3 ≤ sizeLine; decide, fun u hu => ⟨by show 1 ≤ sizeLine; decide, fun l hl => ?_⟩⟩⟩
      refine WPost.end_ N1 ⟨((same_new hm).trans (same_new hu)).trans (same_new hl), l, _, rfl, upd_free (upd_free hl), upd_same, ?_⟩ k1
      refine .cons (.tup (upd_old upd_same hl) (.cons (.str _) (.cons (.int _) (.cons (.tup (upd_old (upd_old upd_same hu) hl) (.cons (.str _) (.cons (hw1.same (((same_new hm).trans (same_new hu)).trans (same_new hl))) .nil))) .nil)))) .nil
end
end Mob

set_option Elab.async false
set_option linter.all false
set_option maxRecDepth 100000
set_option maxHeartbeats 4000000
namespace Mob
open PySem PySem.Spec PyProof.Rows L2
section
variable {P : Program} {w : World} {K : PySem.W.Frag} {mg : Str → Option Value} {base : Heap}
/-! ### the law's drop and leave -/
def spLDrop : Sp := sp4 fun a b c d H Q => ∃ (L : Lb) (wd : Addr) (A : WA) (nums : List Str) (fr : List (Addr × Fct)) (wc : List (Addr × CallR)) (wl : List (Addr × LineR)) (cA : Addr) (r : CallR) (t e : Int),
  a = .ref wd ∧ b = .ref cA ∧ c = .int t ∧ d = .int e ∧ WN L H wd A nums fr wc wl ∧ (cA, r) ∈ wc ∧ wc.length ≤ 1000 ∧ (∀ i, r.line = some i → ∃ x, wl[i]? = some x) ∧
  ∀ (L' : Lb) (H' : Hp) (A' : WA) (wl' : List (Addr × LineR)), Step S17 L H L' H' → WN L' H' wd A' nums fr (keepC r.caller wc) wl' → wl'.map (·.2) = dropL (wl.map (·.2)) r t e → H' cA = some (.dK (callKvs r)) → Q .non H'
theorem lineV_at (l : LineR) : (lineV l)[0]? = some (.int l.caller) ∧ (lineV l)[1]? = some (.int l.called) ∧ (lineV l)[2]? = some (.int l.began) := ⟨rfl, rfl, rfl⟩
theorem ok_law_drop (T : Hd K mg) : OkD P w K mg base d_law_drop 1 P_law_drop (spLDrop) := by
  obtain ⟨fd, F⟩ := T.says.def_ 51 (d := d_law_drop) rfl
  refine ⟨fd, F, F.bindsN (ps := P_law_drop) (fun _ _ _ _ _ _ us hl => match us, hl with | [_, _, _, _], _ => rfl), F.ok sc_law_drop (fun vs H Q E h => sp4_len h) (fun cdv A outer s H vs Q E hr h => ?_)⟩
  have hu := hu_of hr
  obtain ⟨a, b, c, d, rfl, L, wd, B, nums, fr, wc, wl, cA, r, tk, e, rfl, rfl, rfl, rfl, N, hx, hlen, hline, k⟩ := h
  have hc := N.calls _ hx
  refine ⟨_, PSs.nox (pss_cons (ps_set (i := 4) sc_law_drop.nd rfl (Or.inl rfl) (pe_lst pa_nil)) (pss_cons (ps_for PassesOwn.never rfl (pi_list (pe_dget hu (pv 0) pe_str (fun _ _ => rfl))) (pg_name (i := 5) sc_law_drop.nd rfl (Or.inl rfl)) (pss_one (ps_if (pt_cmpR op_ne (pe_dget hu (pv 5) pe_str (fun _ _ => rfl)) (pe_dget hu (pv 1) pe_str (fun _ _ => rfl)) (nomark _)) (pss_one (ps_expr (pe_bm PySem.F.plainAttrs_list PySem.F.slot_list_append PySem.F.type_list_append mt_append (pv 4) (pa_cons (pv 5) pa_nil)))) pss_nil))) (pss_cons (ps_dput hu (pv 0) pe_str (pv 4) rfl) (pss_one (ps_if (pt_cmpR op_notN (pe_dget hu (pv 1) pe_str (fun _ _ => rfl)) pe_non (nomark _)) (pss_cons (ps_set (i := 6) sc_law_drop.nd rfl (Or.inl rfl) (pe_ix ix_list (pe_dget hu (pv 0) pe_str (fun _ _ => rfl)) (pe_dget hu (pv 1) pe_str (fun _ _ => rfl)) (fun _ _ => rfl))) (pss_one (ps_asg (pe_tup (pa_cons (pe_ix ix_tup (pv 6) pe_int (fun _ _ => rfl)) (pa_cons (pe_ix ix_tup (pv 6) pe_int (fun _ _ => rfl)) (pa_cons (pe_ix ix_tup (pv 6) pe_int (fun _ _ => rfl)) (pa_cons (pv 2) (pa_cons (pv 3) pa_nil)))))) (pg_sub (pe_dget hu (pv 0) pe_str (fun _ _ => rfl)) (pe_dget hu (pv 1) pe_str (fun _ _ => rfl)) set_list)))) pss_nil))))), ?_⟩
  refine ⟨Nat.zero_le _, fun D hD => ?_⟩
  refine ⟨_, rfl, _, _, rfl, dgCalls (upd_old N.wd.1 hD), B.cl, rfl, ⟨_, SqL.of (upd_old N.cl.1 hD)⟩, for_list (K := K) (a := B.cl) (xs := wc.map fun x => V.ref x.1)
    (fun i σ H2 => Same H H2 ∧ H2 D = some (.lst ((keepC r.caller (wc.take i)).map fun x => V.ref x.1)) ∧ ∃ v, σ = [some (.ref wd), some (.ref cA), some (.int tk), some (.int e), some (.ref D), v, none]) ⟨same_new hD, upd_same, none, rfl⟩ (fun i σ H2 _ h => SqL.of (h.1 _ _ N.cl.1)) ?_ ?_⟩
  · rintro i x σ H2 hi ⟨s2, h2, v, rfl⟩
    obtain ⟨y, hy, rfl⟩ := map_at hi
    have hcy := s2 _ _ (N.calls y (List.mem_of_getElem? hy)).1
    have et : wc.take (i + 1) = wc.take i ++ [y] := by rw [List.take_succ, hy]; rfl
    have hil := (List.getElem?_eq_some_iff.mp hy).1
    refine ⟨_, rfl, _, _, rfl, dgCaller hcy, _, rfl, _, _, rfl, dgCaller (s2 _ _ hc.1), rfl, _, rfl, ?_⟩
    show (if (!decide (V.int y.2.caller = V.int r.caller)) = true then _ else _)
    rw [decVI]
    cases h1 : decide (y.2.caller = r.caller) with
    | true =>
      refine iteF ⟨s2, ?_, _, rfl⟩
      unfold keepC
      rw [et, List.filter_append, List.filter_cons, if_neg (by simpa using h1), List.filter_nil, List.append_nil]
      exact h2
    | false =>
      refine iteT ⟨_, rfl, .inl ⟨rfl, _, SqL.of h2⟩, _, rfl, D, _, _, rfl, rfl, h2, ?_, same_mut s2 hD, ?_, _, rfl⟩
      · rw [List.length_map]
        refine small1000 (Nat.le_trans (List.length_filter_le _ _) ?_)
        rw [List.length_take]
        omega
      · rw [upd_same, et]
        unfold keepC
        rw [List.filter_append, List.filter_cons, if_pos (by simpa using h1), List.filter_nil, List.map_append]
        rfl
  · rintro σ H2 ⟨s2, h2, v, rfl⟩
    rw [List.take_of_length_le (by rw [List.length_map]; exact Nat.le_refl _)] at h2
    refine ⟨_, rfl, _, rfl, _, _, rfl, dpCalls (s2 _ _ N.wd.1) D, ?_⟩
    have N2 := N.setRows s2 hD h2 List.filter_sublist
    have st2 := Step.wrows (S := S17) (o := .dK (wdKvs { B with cl := D })) N s2 hD ⟨by decide, by decide⟩
    have hc2 : (upd H2 wd (.dK (wdKvs { B with cl := D }))) cA = some (.dK (callKvs r)) := upd_off (s2 _ _ hc.1) (hc.ne N.wd.2 (by decide))
    refine ⟨_, rfl, _, _, rfl, dgLine hc2, rfl, _, rfl, ?_⟩
    show (if (!decide (oN r.line = V.non)) = true then _ else _)
    rw [oN_non]
    cases el : r.line with
    | none =>
      refine iteF ?_
      refine k _ _ _ wl st2 N2 ?_ hc2
      unfold dropL
      rw [el]
    | some i =>
      obtain ⟨⟨tp, l⟩, hi⟩ := hline i el
      have hil := (List.getElem?_eq_some_iff.mp hi).1
      have ht := N2.lines _ (List.mem_of_getElem? hi)
      have eli : oN r.line = .int (i : Int) := by rw [el]; rfl
      have hdl := dgLine hc2
      rw [eli] at hdl
      refine iteT ⟨_, rfl, _, _, rfl, dgLines N2.wd.1, _, rfl, _, _, rfl, hdl, B.ll, _, _, _, rfl, rfl, SqL.of N2.ll.1, atI_nat (by rw [List.getElem?_map, hi]; rfl), ?_⟩
      refine ⟨_, rfl, tp, _, _, _, rfl, rfl, SqT.of ht, atI_nat (j := 0) (lineV_at l).1, _, rfl, tp, _, _, _, rfl, rfl, SqT.of ht, atI_nat (j := 1) (lineV_at l).2.1, _, rfl, tp, _, _, _, rfl, rfl, SqT.of ht, atI_nat (j := 2) (lineV_at l).2.2, _, rfl, _, rfl, by show 5 ≤ sizeLine; decide, fun t2 ht2 => ?_⟩
      have hdl2 : DGet (upd (upd H2 wd (.dK (wdKvs { B with cl := D }))) t2 (.tup [.int l.caller, .int l.called, .int l.began, .int tk, .int e])) cA (.str "line") (some (.int (i : Int))) := by
        have := dgLine (upd_old (x := .tup [.int l.caller, .int l.called, .int l.began, .int tk, .int e]) hc2 ht2)
        rw [eli] at this
        exact this
      refine ⟨_, rfl, _, _, rfl, dgLines (upd_old N2.wd.1 ht2), _, rfl, _, _, rfl, hdl2, B.ll, _, _, i, rfl, rfl, upd_old N2.ll.1 ht2, ixN_nat (by rw [List.length_map]; exact hil), ?_⟩
      have N3 := N2.endLine (l' := { l with fin := some (tk, e) }) ht2 hi
      have st3 := Step.wbook (S := S17) N2 (t := t2) (o := .tup (lineV { l with fin := some (tk, e) })) (u := .lst ((wl.map fun x => V.ref x.1).set i (.ref t2))) ht2 ⟨by decide, by decide⟩
      refine k _ _ _ _ (st2.trans st3) N3 ?_ ?_
      · unfold dropL
        rw [el]
        show (wl.set i (t2, { l with fin := some (tk, e) })).map (·.2) = endL (wl.map (·.2)) i tk e
        rw [endL_set (l := l) (by rw [List.getElem?_map, hi]; rfl), List.map_set]
      · exact upd_off (upd_old hc2 ht2) (ne_of hc2 N2.ll.1 (by intro z; cases z))
/-- what the law's leave leans on -/
structure WLv (L : Lb) (H : Hp) (wd : Addr) (A : WA) (nums : List Str) (fr : List (Addr × Fct)) (wc : List (Addr × CallR)) (wl : List (Addr × LineR)) : Prop where
  N : WN L H wd A nums fr wc wl
  nd : (sidesI (wc.map (·.2))).Nodup
  cd : ∀ x ∈ wc, ∃ g, x.2.called = some g
  len : wc.length ≤ 1000
  line : ∀ x ∈ wc, ∀ i, x.2.line = some i → ∃ y, wl[i]? = some y
theorem caller_ne {cs : List CallR} (hnd : (sidesI cs).Nodup) {r : CallR} (h : r ∈ cs) {g : Int} (hg : r.called = some g) : r.caller ≠ g := by
  obtain ⟨pre, post, rfl, _, _⟩ := cut_at hnd h
  rw [sides_cut, hg] at hnd
  have := (List.nodup_cons.mp (List.nodup_append.mp hnd).2.1).1
  intro e
  exact this (by rw [e]; simp)
theorem leave_leg {cs : List CallR} (hnd : (sidesI cs).Nodup) {r : CallR} (h : r ∈ cs) {g p : Int} (hg : r.called = some g) (hp : sideB p r = true) (e : Int) :
    clearD r ((otherI r p).getD 0) e = if legB cs ((otherI r p).getD 0) = true then refuseD ((otherI r p).getD 0) e else [unpageD ((otherI r p).getD 0)] := by
  have hne := caller_ne hnd h hg
  by_cases hpc : p = r.caller
  · have eo : (otherI r p).getD 0 = g := by unfold otherI; rw [if_pos hpc, hg]; rfl
    have ef : findC cs g = some r := findC_of hnd h (by unfold sideB; rw [hg]; simp)
    have el : legB cs g = decide (r.st ≠ .looking) := by
      unfold legB
      rw [ef]
      show (decide (g = r.caller) || _) = _
      rw [decide_eq_false fun z => hne z.symm, Bool.false_or]
    rw [eo, el]
    unfold clearD
    by_cases hs : r.st = .looking
    · rw [if_pos ⟨hg.symm, hs⟩, if_neg (by simpa using hs)]
    · rw [if_neg (fun z => hs z.2), if_pos (by simpa using hs)]
  · have eo : (otherI r p).getD 0 = r.caller := by unfold otherI; rw [if_neg hpc]; rfl
    have ef : findC cs r.caller = some r := findC_of hnd h (by unfold sideB; simp)
    have el : legB cs r.caller = true := by
      unfold legB
      rw [ef]
      show (decide (r.caller = r.caller) || _) = _
      rw [decide_eq_true rfl, Bool.true_or]
    rw [eo, el, if_pos rfl]
    unfold clearD
    rw [if_neg]
    intro z
    rw [hg] at z
    exact hne (Option.some.inj z.1)
def spLLeave : Sp := sp4 fun a b c d H Q => ∃ (L : Lb) (wd : Addr) (A : WA) (nums : List Str) (fr : List (Addr × Fct)) (wc : List (Addr × CallR)) (wl : List (Addr × LineR)) (p e t : Int),
  a = .ref wd ∧ b = .int p ∧ c = .int e ∧ d = .int t ∧ WLv L H wd A nums fr wc wl ∧ WPost L H wd nums fr (mLeave ⟨wc.map (·.2), wl.map (·.2)⟩ p e t) Q
theorem ok_law_leave (T : Hd K mg) : OkD P w K mg base d_law_leave 3 P_law_leave (spLLeave) := by
  obtain ⟨fd, F⟩ := T.says.def_ 57 (d := d_law_leave) rfl
  obtain ⟨_, F_law_leg, b_law_leg, G_law_leg⟩ := ok_law_leg (P := P) (w := w) (base := base) T
  obtain ⟨_, F_law_find, b_law_find, G_law_find⟩ := ok_law_find (P := P) (w := w) (base := base) T
  obtain ⟨_, F_law_other, b_law_other, G_law_other⟩ := ok_law_other (P := P) (w := w) (base := base) T
  obtain ⟨_, F_law_refuse, b_law_refuse, G_law_refuse⟩ := ok_law_refuse (P := P) (w := w) (base := base) T
  obtain ⟨_, F_law_drop, b_law_drop, G_law_drop⟩ := ok_law_drop (P := P) (w := w) (base := base) T
  refine ⟨fd, F, F.bindsN (ps := P_law_leave) (fun _ _ _ _ _ _ us hl => match us, hl with | [_, _, _, _], _ => rfl), F.ok sc_law_leave (fun vs H Q E h => sp4_len h) (fun cdv A outer s H vs Q E hr h => ?_)⟩
  have hu := hu_of hr
  obtain ⟨a, b, c, d, rfl, L, wd, B, nums, fr, wc, wl, p, e, tk, rfl, rfl, rfl, rfl, ⟨N, hnd, hcd, hlen, hline⟩, k⟩ := h
  refine ⟨_, PSs.nox (pss_cons (ps_if (pt_not (pt_val (pe_call G_law_leg (hr.mono (by decide)) (by rfl) T.gl_law_leg F_law_leg.kp b_law_leg .nil pass0 (pa_cons (pe_dget hu (pv 0) pe_str (fun _ _ => rfl)) (pa_cons (pv 1) pa_nil))))) (pss_one (ps_ret (pe_lst pa_nil))) pss_nil) (pss_cons (ps_set (i := 4) sc_law_leave.nd rfl (Or.inl rfl) (pe_call G_law_find (hr.mono (by decide)) (by rfl) T.gl_law_find F_law_find.kp b_law_find .nil pass0 (pa_cons (pe_dget hu (pv 0) pe_str (fun _ _ => rfl)) (pa_cons (pv 1) pa_nil)))) (pss_cons (ps_set (i := 5) sc_law_leave.nd rfl (Or.inl rfl) (pe_call G_law_other (hr.mono (by decide)) (by rfl) T.gl_law_other F_law_other.kp b_law_other .nil pass0 (pa_cons (pv 4) (pa_cons (pv 1) pa_nil)))) (pss_cons (ps_set (i := 6) sc_law_leave.nd rfl (Or.inl rfl) (pe_call G_law_refuse (hr.mono (by decide)) (by rfl) T.gl_law_refuse F_law_refuse.kp b_law_refuse .nil pass0 (pa_cons (pv 5) (pa_cons (pv 2) pa_nil)))) (pss_cons (ps_if (pt_not (pt_val (pe_call G_law_leg (hr.mono (by decide)) (by rfl) T.gl_law_leg F_law_leg.kp b_law_leg .nil pass0 (pa_cons (pe_dget hu (pv 0) pe_str (fun _ _ => rfl)) (pa_cons (pv 5) pa_nil))))) (pss_one (ps_set (i := 6) sc_law_leave.nd rfl (Or.inl rfl) (pe_lst (pa_cons (pe_tup (pa_cons pe_str (pa_cons (pv 5) pa_nil))) pa_nil)))) pss_nil) (pss_cons (ps_expr (pe_call G_law_drop (hr.mono (by decide)) (by rfl) T.gl_law_drop F_law_drop.kp b_law_drop .nil pass0 (pa_cons (pv 0) (pa_cons (pv 4) (pa_cons (pv 3) (pa_cons (pv 2) pa_nil)))))) (pss_one (ps_ret (pv 6))))))))), ?_⟩
  refine ⟨_, rfl, _, _, rfl, dgCalls N.wd.1, _, rfl, _, _, rfl, L, wd, B, nums, fr, wc, wl, p, rfl, rfl, N, _, rfl, ?_⟩
  cases hl : legB (wc.map (·.2)) p with
  | false =>
    have em : mLeave ⟨wc.map (·.2), wl.map (·.2)⟩ p e tk = ([], ⟨wc.map (·.2), wl.map (·.2)⟩) := by
      unfold mLeave
      unfold legB at hl
      show (match findC (wc.map (·.2)) p with
        | none => _
        | some r => _) = _
      cases q : findC (wc.map (·.2)) p with
      | none => rfl
      | some r =>
        simp only [q] at hl ⊢
        rw [if_neg (by simpa using hl)]
    rw [em] at k
    refine iteT ⟨Nat.zero_le _, fun l hl => ?_⟩
    exact WPost.end_ N (new_nil hl) k
  | true =>
    cases ef : findA wc p with
    | none => rw [legB_none ef] at hl; cases hl
    | some x =>
      rw [legB_some ef] at hl
      have hx := findA_mem ef
      have hsd : sideB p x.2 = true := findC_side (cs := wc.map (·.2)) (by rw [← findA_snd, ef]; rfl)
      obtain ⟨cA, r⟩ := x
      obtain ⟨g, hg⟩ := hcd _ hx
      have hc := N.calls _ hx
      have em : mLeave ⟨wc.map (·.2), wl.map (·.2)⟩ p e tk = (clearD r ((otherI r p).getD 0) e, ⟨dropC (wc.map (·.2)) r.caller, dropL (wl.map (·.2)) r tk e⟩) := by
        unfold mLeave
        simp only [← findA_snd, ef, Option.map_some]
        rw [if_pos (by simpa using hl)]
      rw [em, leave_leg hnd (List.mem_map.mpr ⟨_, hx, rfl⟩) hg hsd e] at k
      refine iteF ⟨_, rfl, _, _, rfl, dgCalls N.wd.1, _, rfl, _, _, rfl, L, wd, B, nums, fr, wc, wl, p, rfl, rfl, N, ?_⟩
      rw [ef]
      refine ⟨_, rfl, _, rfl, _, _, rfl, cA, r, p, rfl, rfl, hc.1, ?_⟩
      rw [otherI_some (hcd _ hx)]
      refine ⟨_, rfl, _, rfl, _, _, rfl, _, e, rfl, rfl, fun v H1 nw => ?_⟩
      have N0 := N.same nw.1
      refine ⟨_, rfl, _, _, rfl, dgCalls N0.wd.1, _, rfl, _, _, rfl, L, wd, B, nums, fr, wc, wl, _, rfl, rfl, N0, _, rfl, ?_⟩
      cases hq : legB (wc.map (·.2)) ((otherI r p).getD 0) with
      | true =>
        rw [hq, if_pos rfl] at k
        refine iteF ?_
        obtain ⟨L1, s1, a1, _⟩ := New.al (L := L) (nw) (fun _ => False)
        have N1 := N.keep s1 fun _ _ _ z => z
        have k1 := k.after (s1.mono fun _ z => z.elim)
        refine ⟨_, rfl, _, rfl, _, rfl, _, rfl, _, _, _, _, rfl, L1, wd, B, nums, fr, wc, wl, cA, r, tk, e, rfl, rfl, rfl, rfl, N1, hx, hlen, hline _ hx, fun L2 H2 A2 wl2 st2 N2 e2 _ => ?_⟩
        exact ⟨_, rfl, k1 L2 H2 A2 _ wl2 _ st2 N2 dropA_snd e2 (a1.keep st2 fun z => absurd z.1 (by decide))⟩
      | false =>
        rw [hq, if_neg Bool.false_ne_true] at k
        refine iteT ⟨_, rfl, by show 2 ≤ sizeLine; decide, fun t ht => ⟨by show 1 ≤ sizeLine; decide, fun l hl => ?_⟩⟩
        have nw2 : New H (upd (upd H1 t (.tup [.str "unpage", .int ((otherI r p).getD 0)])) l (.lst [.ref t])) (.ref l) [unpageD ((otherI r p).getD 0)] := by
          refine Same.al (L := L) nw.1 ⟨(same_new ht).trans (same_new hl), l, _, rfl, upd_free hl, upd_same, .cons (.tup (upd_old upd_same hl) (.cons (.str _) (.cons (.int _) .nil))) .nil⟩
        obtain ⟨L1, s1, a1, _⟩ := New.al (L := L) (nw2) (fun _ => False)
        have N1 := N.keep s1 fun _ _ _ z => z
        have k1 := k.after (s1.mono fun _ z => z.elim)
        refine ⟨_, rfl, _, rfl, _, rfl, _, rfl, _, _, _, _, rfl, L1, wd, B, nums, fr, wc, wl, cA, r, tk, e, rfl, rfl, rfl, rfl, N1, hx, hlen, hline _ hx, fun L2 H2 A2 wl2 st2 N2 e2 _ => ?_⟩
        exact ⟨_, rfl, k1 L2 H2 A2 _ wl2 _ st2 N2 dropA_snd e2 (a1.keep st2 fun z => absurd z.1 (by decide))⟩
end
end Mob

set_option Elab.async false
set_option linter.all false
set_option maxRecDepth 100000
set_option maxHeartbeats 4000000
namespace Mob
open PySem PySem.Spec PyProof.Rows L2
section
variable {P : Program} {w : World} {K : PySem.W.Frag} {mg : Str → Option Value} {base : Heap}
/-! ### the law's not_reached, failed, step -/
def spLNotR : Sp := sp5 fun a b c d e H Q => ∃ (L : Lb) (wd : Addr) (A : WA) (nums : List Str) (fr : List (Addr × Fct)) (wc : List (Addr × CallR)) (wl : List (Addr × LineR)) (cA : Addr) (r : CallR) (g : Int) (kd : Kd) (cs : Int) (lk : Addr) (linked : List Int),
  a = .ref wd ∧ b = .ref cA ∧ c = .str kd.s ∧ d = .int cs ∧ e = .ref lk ∧ WEv L H wd A nums fr wc wl ∧ fr.length = nums.length ∧ (cA, r) ∈ wc ∧ r.called = some g ∧ (0 ≤ g ∧ g < nums.length) ∧ r.line = none ∧ wc.length ≤ 1000 ∧ At L H 0 lk (.lst (linked.map V.int)) ∧ linked.length ≤ 1000 ∧
  ∀ (L' : Lb) (H' : Hp) (A' : WA) (wc' : List (Addr × CallR)) (wl' : List (Addr × LineR)) (v : V), Step S17 L H L' H' → WN L' H' wd A' nums fr wc' wl' → wc'.map (·.2) = (mNotReached ⟨nums, fr.map (·.2)⟩ ⟨wc.map (·.2), wl.map (·.2)⟩ r kd cs linked).2.cs → wl'.map (·.2) = wl.map (·.2) →
    AL L' H' 0 v (mNotReached ⟨nums, fr.map (·.2)⟩ ⟨wc.map (·.2), wl.map (·.2)⟩ r kd cs linked).1 → (∀ y ∈ wc, y.2.caller ≠ r.caller → y ∈ wc') → Q v H'
theorem ok_law_not_reached (T : Hd K mg) : OkD P w K mg base d_law_not_reached 2 P_law_not_reached (spLNotR) := by
  obtain ⟨fd, F⟩ := T.says.def_ 58 (d := d_law_not_reached) rfl
  obtain ⟨_, F_law_sides, b_law_sides, G_law_sides⟩ := ok_law_sides (P := P) (w := w) (base := base) T
  obtain ⟨_, F_law_goal, b_law_goal, G_law_goal⟩ := ok_law_goal (P := P) (w := w) (base := base) T
  obtain ⟨_, F_law_drop, b_law_drop, G_law_drop⟩ := ok_law_drop (P := P) (w := w) (base := base) T
  obtain ⟨_, F_law_refuse, b_law_refuse, G_law_refuse⟩ := ok_law_refuse (P := P) (w := w) (base := base) T
  refine ⟨fd, F, F.bindsN (ps := P_law_not_reached) (fun _ _ _ _ _ _ us hl => match us, hl with | [_, _, _, _, _], _ => rfl), F.ok sc_law_not_reached (fun vs H Q E h => sp5_len h) (fun cdv A outer s H vs Q E hr h => ?_)⟩
  have hu := hu_of hr
  obtain ⟨a, b, c, d, e, rfl, L, wd, B, nums, fr, wc, wl, cA, r, g, kd, cs, lk, linked, rfl, rfl, rfl, rfl, rfl, ⟨N, hnd⟩, hfl, hx, hg, ⟨g0, g1⟩, hln, hlen, hlk, hll, k⟩ := h
  have hc := N.calls _ hx
  obtain ⟨i, hi⟩ : ∃ i : Nat, g = (i : Int) := ⟨g.toNat, by omega⟩
  subst hi
  obtain ⟨y, hy⟩ : ∃ y, fr[i]? = some y := ⟨fr[i]'(by omega), List.getElem?_eq_getElem _⟩
  obtain ⟨fa0, fc⟩ := y
  have hfc := (N.facts _ (List.mem_of_getElem? hy)).1
  have efc : (fr.map (·.2)).getD i fct0 = fc := by rw [List.getD_eq_getElem?_getD, List.getElem?_map, hy]; rfl
  have hat : atI (fr.map fun x => V.ref x.1) ((i : Nat) : Int) = some (.ref fa0) := atI_nat (by rw [List.getElem?_map, hy]; rfl)
  have eg0 : oI r.called = .int (i : Int) := by rw [hg]; rfl
  have hdg := dgCalled hc.1
  have hdg' : DGet H cA (.str "called") (some (.int (i : Int))) := by rw [← eg0]; exact hdg
  refine ⟨_, PSs.nox (pss_cons (ps_set (i := 5) sc_law_not_reached.nd rfl (Or.inl rfl) (pe_dget hu (pe_ix ix_list (pe_dget hu (pv 0) pe_str (fun _ _ => rfl)) (pe_dget hu (pv 1) pe_str (fun _ _ => rfl)) (fun _ _ => rfl)) (pv 2) (fun _ _ => rfl))) (pss_cons (ps_dput hu (pv 1) pe_str pe_non rfl) (pss_cons (ps_set (i := 6) sc_law_not_reached.nd rfl (Or.inl rfl) pe_non) (pss_cons (ps_if ((pw_and (pt_cmpR op_notN (pv 5) pe_non (nomark _)) (pw_and1 (pt_cmpR op_ge (pe_dget hu (pv 1) pe_str (fun _ _ => rfl)) pe_int (nomark _))))).pt (pss_one (ps_set (i := 3) sc_law_not_reached.nd rfl (Or.inl rfl) pe_int)) pss_nil) (pss_cons (ps_if ((pw_and (pt_cmpR op_notN (pv 5) pe_non (nomark _)) (pw_and1 (pt_cmpR op_lt (pe_dget hu (pv 1) pe_str (fun _ _ => rfl)) pe_int (nomark _))))).pt (pss_cons (ps_set (i := 7) sc_law_not_reached.nd rfl (Or.inl rfl) (pe_op op_cat (pe_call G_law_sides (hr.mono (by decide)) (by rfl) T.gl_law_sides F_law_sides.kp b_law_sides .nil pass0 (pa_cons (pe_dget hu (pv 0) pe_str (fun _ _ => rfl)) pa_nil)) (pv 4))) (pss_cons (ps_set (i := 8) sc_law_not_reached.nd rfl (Or.inl rfl) (pe_call G_law_goal (hr.mono (by decide)) (by rfl) T.gl_law_goal F_law_goal.kp b_law_goal .nil pass0 (pa_cons (pe_dget hu (pv 0) pe_str (fun _ _ => rfl)) (pa_cons (pe_dget hu (pv 0) pe_str (fun _ _ => rfl)) (pa_cons (pv 5) (pa_cons (pe_dget hu (pv 1) pe_str (fun _ _ => rfl)) (pa_cons (pv 7) (pa_cons (pe_op op_add (pe_dget hu (pv 1) pe_str (fun _ _ => rfl)) pe_int) pa_nil)))))))) (pss_cons (ps_set (i := 6) sc_law_not_reached.nd rfl (Or.inl rfl) (pe_ix ix_tup (pv 8) pe_int (fun _ _ => rfl))) (pss_cons (ps_set (i := 3) sc_law_not_reached.nd rfl (Or.inl rfl) (pe_ix ix_tup (pv 8) pe_int (fun _ _ => rfl))) (pss_one (ps_dput hu (pv 1) pe_str (pe_ix ix_tup (pv 8) pe_int (fun _ _ => rfl)) rfl)))))) pss_nil) (pss_cons (ps_if (pt_cmpR op_isN (pv 6) pe_non (nomark _)) (pss_cons (ps_expr (pe_call G_law_drop (hr.mono (by decide)) (by rfl) T.gl_law_drop F_law_drop.kp b_law_drop .nil pass0 (pa_cons (pv 0) (pa_cons (pv 1) (pa_cons pe_int (pa_cons (pv 3) pa_nil)))))) (pss_one (ps_ret (pe_call G_law_refuse (hr.mono (by decide)) (by rfl) T.gl_law_refuse F_law_refuse.kp b_law_refuse .nil pass0 (pa_cons (pe_dget hu (pv 1) pe_str (fun _ _ => rfl)) (pa_cons (pv 3) pa_nil)))))) pss_nil) (pss_cons (ps_dput hu (pv 1) pe_str (pv 6) rfl) (pss_cons (ps_dput hu (pv 1) pe_str pe_str rfl) (pss_one (ps_ret (pe_lst (pa_cons (pe_tup (pa_cons pe_str (pa_cons (pv 6) pa_nil))) pa_nil)))))))))))), ?_⟩
  refine ⟨_, rfl, _, _, rfl, dgFacts N.wd.1, _, rfl, _, _, rfl, hdg', B.fl, _, _, _, rfl, rfl, SqL.of N.fl.1, hat, _, rfl, _, _, rfl, dgKd hfc kd, ?_⟩
  have efw : ((fr.map (·.2)).getD (r.called.getD 0).toNat fct0).fw kd = fc.fw kd := by
    rw [hg]
    show ((fr.map (·.2)).getD ((i : Int)).toNat fct0).fw kd = _
    rw [Int.toNat_natCast, efc]
  refine ⟨_, rfl, _, _, rfl, dpCalled hc.1 none, ?_⟩
  have N1 := N.setCall (r' := { r with called := none }) hx
  have st1 := Step.wcall (S := S17) N (r' := { r with called := none }) hx ⟨by decide, by decide⟩
  have hlk1 := hlk.keep st1 (fun z => absurd z.1 (by decide))
  have hx1 : (cA, { r with called := none }) ∈ setA wc cA { r with called := none } := mem_setA_same hx
  have hc1 := (N1.calls _ hx1).1
  refine ⟨_, rfl, rfl, _, rfl, ?_⟩
  show (if (!decide (oS (fc.fw kd) = V.non)) = true then _ else _)
  rw [oS_non]
  cases hf : fc.fw kd with
  | none =>
    have em : mNotReached ⟨nums, fr.map (·.2)⟩ ⟨wc.map (·.2), wl.map (·.2)⟩ r kd cs linked = (refuseD r.caller cs, ⟨dropC (wc.map (·.2)) r.caller, wl.map (·.2)⟩) := by
      unfold mNotReached
      show (match ((fr.map (·.2)).getD (r.called.getD 0).toNat fct0).fw kd with
        | none => _
        | some num => _) = _
      rw [efw, hf]
    refine iteF (iteF ?_)
    refine ⟨_, rfl, rfl, _, rfl, iteF (iteF ?_)⟩
    -- N1: net at the heap, { r with called := none }: the call's record, cs: cause, st1: the step so far, em: equation of the event
    refine ⟨_, rfl, rfl, _, rfl, iteT ?_⟩
    refine ⟨_, rfl, _, rfl, _, rfl, _, _, _, _, rfl, _, wd, B, nums, fr, _, wl, cA, { r with called := none }, 0, cs, rfl, rfl, rfl, rfl, N1, mem_setA_same hx, by unfold setA; rw [List.length_map]; exact hlen, fun i hi => absurd ((show r.line = some i from hi).symm.trans hln) (by simp), fun L3 H3 A3 wl3 st3 N3 e3 hc3 => ?_⟩
    refine ⟨_, rfl, _, _, rfl, dgCaller hc3, _, rfl, _, _, rfl, r.caller, cs, rfl, rfl, fun v H4 nw => ?_⟩
    obtain ⟨L4, s4, a4, _⟩ := New.al (L := L3) nw (fun _ => False)
    refine k L4 H4 A3 _ wl3 v (((st1).trans st3).trans (s4.mono fun _ z => z.elim)) (N3.keep s4 fun _ _ _ z => z) ?_ ?_ ?_ ?_
    · rw [em]
      show (keepC r.caller (setA wc cA { r with called := none })).map (·.2) = dropC (wc.map (·.2)) r.caller
      unfold keepC
      rw [dropA_snd, setA_snd hnd N.nd hx]
      exact dropC_updC rfl
    · rw [e3]
      unfold dropL
      show (match r.line with
        | none => _
        | some i => _) = _
      rw [hln]
    · rw [em]
      exact a4
    · intro y hy hyc
      refine List.mem_filter.mpr ⟨mem_setA_other hy fun z => hyc ?_, by simpa using hyc⟩
      rw [fst_one N.nd hy hx z]
  | some num =>
    refine iteT ⟨_, rfl, _, _, rfl, dgHops hc1, _, _, rfl, rfl, _, rfl, ?_⟩
    show (if decide (2 ≤ r.hops) = true then _ else _)
    cases hh : decide (2 ≤ r.hops) with
    | true =>
      have hh' := of_decide_eq_true hh
      have em : mNotReached ⟨nums, fr.map (·.2)⟩ ⟨wc.map (·.2), wl.map (·.2)⟩ r kd cs linked = (refuseD r.caller 31, ⟨dropC (wc.map (·.2)) r.caller, wl.map (·.2)⟩) := by
        unfold mNotReached
        show (match ((fr.map (·.2)).getD (r.called.getD 0).toNat fct0).fw kd with
          | none => _
          | some num => _) = _
        rw [efw, hf]
        show (if 2 ≤ r.hops then _ else _) = _
        rw [if_pos hh']
      refine iteT ?_
      refine ⟨_, rfl, rfl, _, rfl, iteT ⟨_, rfl, _, _, rfl, dgHops hc1, _, _, rfl, rfl, _, rfl, ?_⟩⟩
      show (if decide (r.hops < 2) = true then _ else _)
      rw [decide_eq_false (by omega)]
      refine iteF ?_
      -- N1: net at the heap, { r with called := none }: the call's record, 31: cause, st1: the step so far, em: equation of the event
      refine ⟨_, rfl, rfl, _, rfl, iteT ?_⟩
      refine ⟨_, rfl, _, rfl, _, rfl, _, _, _, _, rfl, _, wd, B, nums, fr, _, wl, cA, { r with called := none }, 0, 31, rfl, rfl, rfl, rfl, N1, mem_setA_same hx, by unfold setA; rw [List.length_map]; exact hlen, fun i hi => absurd ((show r.line = some i from hi).symm.trans hln) (by simp), fun L3 H3 A3 wl3 st3 N3 e3 hc3 => ?_⟩
      refine ⟨_, rfl, _, _, rfl, dgCaller hc3, _, rfl, _, _, rfl, r.caller, 31, rfl, rfl, fun v H4 nw => ?_⟩
      obtain ⟨L4, s4, a4, _⟩ := New.al (L := L3) nw (fun _ => False)
      refine k L4 H4 A3 _ wl3 v (((st1).trans st3).trans (s4.mono fun _ z => z.elim)) (N3.keep s4 fun _ _ _ z => z) ?_ ?_ ?_ ?_
      · rw [em]
        show (keepC r.caller (setA wc cA { r with called := none })).map (·.2) = dropC (wc.map (·.2)) r.caller
        unfold keepC
        rw [dropA_snd, setA_snd hnd N.nd hx]
        exact dropC_updC rfl
      · rw [e3]
        unfold dropL
        show (match r.line with
          | none => _
          | some i => _) = _
        rw [hln]
      · rw [em]
        exact a4
      · intro y hy hyc
        refine List.mem_filter.mpr ⟨mem_setA_other hy fun z => hyc ?_, by simpa using hyc⟩
        rw [fst_one N.nd hy hx z]
    | false =>
      have hh' := of_decide_eq_false hh
      refine iteF ?_
      refine ⟨_, rfl, rfl, _, rfl, iteT ⟨_, rfl, _, _, rfl, dgHops hc1, _, _, rfl, rfl, _, rfl, ?_⟩⟩
      show (if decide (r.hops < 2) = true then _ else _)
      rw [decide_eq_true (by omega)]
      have len1 : (setA wc cA { r with called := none }).length = wc.length := by unfold setA; rw [List.length_map]
      refine iteT ⟨_, rfl, _, _, rfl, dgCalls N1.wd.1, _, rfl, L, wd, B, nums, fr, _, wl, rfl, N1, by rw [len1]; exact hlen, fun l1 H2 s2 hl1 hl1' => ?_⟩
      have hlk2 := hlk1.same s2
      refine ⟨_, rfl, l1, lk, _, _, rfl, rfl, hl1', hlk2.1, ?_, fun l3 hl3 => ?_⟩
      · rw [List.length_map, List.length_map]
        have := sidesI_len ((setA wc cA { r with called := none }).map (·.2))
        rw [List.length_map, len1] at this
        exact Nat.le_trans (show _ ≤ 3000 by omega) (by decide)
      have s14 := s2.trans (same_new (o := .lst ((sidesI ((setA wc cA { r with called := none }).map (·.2))).map V.int ++ linked.map V.int)) hl3)
      have N4 := N1.same s14
      have hc4 := s14 _ _ hc1
      refine ⟨_, rfl, _, _, rfl, dgNumbers N4.wd.1, _, rfl, _, _, rfl, dgFacts N4.wd.1, _, rfl, _, rfl, _, _, rfl, dgCaller hc4, _, rfl, _, rfl, _, _, rfl, dgHops hc4, _, _, rfl, rfl,
        _, _, _, _, _, _, rfl, L, wd, B, nums, fr, _, wl, num, r.caller, l3, sidesI ((setA wc cA { r with called := none }).map (·.2)) ++ linked, r.hops + 1, rfl, rfl, rfl, rfl, rfl, rfl, N4, hfl, ?_, fun t H5 s5 ht => ?_⟩
      · refine SqL.of ?_
        rw [List.map_append]
        exact upd_same
      have s15 := s14.trans s5
      have N5 := N1.same s15
      have hc5 := s15 _ _ hc1
      have st5 := st1.trans (Step.same s15)
      have eb : sidesI ((setA wc cA { r with called := none }).map (·.2)) = sidesI (updC (wc.map (·.2)) r.caller { r with called := none }) := by rw [setA_snd hnd N.nd hx]
      rw [eb] at ht
      cases eg : goalN nums (fr.map (·.2)) r.caller (sidesI (updC (wc.map (·.2)) r.caller { r with called := none }) ++ linked) 4 num (r.hops + 1) with
      | mk gl rr =>
        obtain ⟨c0, h0⟩ := rr
        rw [eg] at ht
        refine ⟨_, rfl, t, _, _, _, rfl, rfl, SqT.of ht, atI_nat (j := 0) rfl, ?_⟩
        refine ⟨_, rfl, t, _, _, _, rfl, rfl, SqT.of ht, atI_nat (j := 1) rfl, ?_⟩
        refine ⟨_, rfl, t, _, _, _, rfl, rfl, SqT.of ht, atI_nat (j := 2) rfl, _, rfl, _, _, rfl, dpHops hc5 h0, ?_⟩
        have hx5 : (cA, { r with called := none }) ∈ setA wc cA { r with called := none } := mem_setA_same hx
        have N6 := N5.setCall (r' := { r with called := none, hops := h0 }) hx5
        rw [setA_twice] at N6
        have st6 := st5.trans (Step.wcall (S := S17) N5 (r' := { r with called := none, hops := h0 }) hx5 ⟨by decide, by decide⟩)
        cases gl with
        | none =>
          have em : mNotReached ⟨nums, fr.map (·.2)⟩ ⟨wc.map (·.2), wl.map (·.2)⟩ r kd cs linked = (refuseD r.caller c0, ⟨dropC (wc.map (·.2)) r.caller, wl.map (·.2)⟩) := by
            unfold mNotReached
            show (match ((fr.map (·.2)).getD (r.called.getD 0).toNat fct0).fw kd with
              | none => _
              | some num => _) = _
            rw [efw, hf]
            show (if 2 ≤ r.hops then _ else _) = _
            rw [if_neg hh', eg]
          -- N6: net at the heap, { r with called := none, hops := h0 }: the call's record, c0: cause, st6: the step so far, em: equation of the event
          refine ⟨_, rfl, rfl, _, rfl, iteT ?_⟩
          refine ⟨_, rfl, _, rfl, _, rfl, _, _, _, _, rfl, _, wd, B, nums, fr, _, wl, cA, { r with called := none, hops := h0 }, 0, c0, rfl, rfl, rfl, rfl, N6, mem_setA_same hx, by unfold setA; rw [List.length_map]; exact hlen, fun i hi => absurd ((show r.line = some i from hi).symm.trans hln) (by simp), fun L3 H3 A3 wl3 st3 N3 e3 hc3 => ?_⟩
          refine ⟨_, rfl, _, _, rfl, dgCaller hc3, _, rfl, _, _, rfl, r.caller, c0, rfl, rfl, fun v H4 nw => ?_⟩
          obtain ⟨L4, s4, a4, _⟩ := New.al (L := L3) nw (fun _ => False)
          refine k L4 H4 A3 _ wl3 v (((st6).trans st3).trans (s4.mono fun _ z => z.elim)) (N3.keep s4 fun _ _ _ z => z) ?_ ?_ ?_ ?_
          · rw [em]
            show (keepC r.caller (setA wc cA { r with called := none, hops := h0 })).map (·.2) = dropC (wc.map (·.2)) r.caller
            unfold keepC
            rw [dropA_snd, setA_snd hnd N.nd hx]
            exact dropC_updC rfl
          · rw [e3]
            unfold dropL
            show (match r.line with
              | none => _
              | some i => _) = _
            rw [hln]
          · rw [em]
            exact a4
          · intro y hy hyc
            refine List.mem_filter.mpr ⟨mem_setA_other hy fun z => hyc ?_, by simpa using hyc⟩
            rw [fst_one N.nd hy hx z]
        | some gg =>
          have em : mNotReached ⟨nums, fr.map (·.2)⟩ ⟨wc.map (·.2), wl.map (·.2)⟩ r kd cs linked = ([pageD gg], ⟨updC (wc.map (·.2)) r.caller { r with called := some gg, st := .looking, hops := h0 }, wl.map (·.2)⟩) := by
            unfold mNotReached
            show (match ((fr.map (·.2)).getD (r.called.getD 0).toNat fct0).fw kd with
              | none => _
              | some num => _) = _
            rw [efw, hf]
            show (if 2 ≤ r.hops then _ else _) = _
            rw [if_neg hh', eg]
          refine ⟨_, rfl, rfl, _, rfl, iteF ?_⟩
          have hx6 : (cA, { r with called := none, hops := h0 }) ∈ setA wc cA { r with called := none, hops := h0 } := mem_setA_same hx
          have hc6 := (N6.calls _ hx6).1
          refine ⟨_, rfl, _, rfl, _, _, rfl, dpCalled hc6 (some gg), ?_⟩
          refine ⟨_, rfl, _, _, rfl, dpState upd_same .looking, ?_⟩
          have eH : ∀ H : Hp, upd (upd H cA (.dK (callKvs { r with called := some gg, hops := h0 }))) cA (.dK (callKvs { r with called := some gg, st := .looking, hops := h0 })) = upd H cA (.dK (callKvs { r with called := some gg, st := .looking, hops := h0 })) := fun H => upd_upd
          have N7 := N6.setCall (r' := { r with called := some gg, st := .looking, hops := h0 }) hx6
          rw [setA_twice] at N7
          have st7 := st6.trans (Step.wcall (S := S17) N6 (r' := { r with called := some gg, st := .looking, hops := h0 }) hx6 ⟨by decide, by decide⟩)
          refine ⟨_, rfl, by show 2 ≤ sizeLine; decide, fun u hu => ⟨by show 1 ≤ sizeLine; decide, fun l hl => ?_⟩⟩
          have nw : New (upd (upd H5 cA (.dK (callKvs { r with called := none, hops := h0 }))) cA (.dK (callKvs { r with called := some gg, st := .looking, hops := h0 }))) (upd (upd (upd (upd (upd H5 cA (.dK (callKvs { r with called := none, hops := h0 }))) cA (.dK (callKvs { r with called := some gg, hops := h0 }))) cA (.dK (callKvs { r with called := some gg, st := .looking, hops := h0 }))) u (.tup [.str "page", .int gg])) l (.lst [.ref u])) (.ref l) [pageD gg] := by
            rw [eH]
            exact ⟨(same_new (by rw [← eH]; exact hu)).trans (same_new (by rw [← eH]; exact hl)), l, _, rfl, by rw [← eH]; exact upd_free hl, upd_same, .cons (.tup (upd_old upd_same (by rw [← eH]; exact hl)) (.cons (.str _) (.cons (.int _) .nil))) .nil⟩
          obtain ⟨L8, s8, a8, _⟩ := New.al (L := L) nw (fun _ => False)
          refine k L8 _ _ _ _ _ (st7.trans (s8.mono fun _ z => z.elim)) (N7.keep s8 fun _ _ _ z => z) ?_ rfl ?_ ?_
          · rw [em]
            exact setA_snd hnd N.nd hx _
          · rw [em]
            exact a8
          · intro y hy hyc
            exact mem_setA_other hy fun z => hyc (by rw [fst_one N.nd hy hx z])
end
end Mob

set_option Elab.async false
set_option linter.all false
set_option maxRecDepth 100000
set_option maxHeartbeats 4000000
namespace Mob
open PySem PySem.Spec PyProof.Rows L2
section
variable {P : Program} {w : World} {K : PySem.W.Frag} {mg : Str → Option Value} {base : Heap}
/-! ### the law's failed and step -/
def spLFailed : Sp := sp3 fun a b c H Q => ∃ (L : Lb) (wd : Addr) (A : WA) (nums : List Str) (fr : List (Addr × Fct)) (wc : List (Addr × CallR)) (wl : List (Addr × LineR)) (p : Int) (lk : Addr) (linked : List Int),
  a = .ref wd ∧ b = .int p ∧ c = .ref lk ∧ WEv L H wd A nums fr wc wl ∧ fr.length = nums.length ∧ Inv0 nums.length ⟨wc.map (·.2), wl.map (·.2)⟩ ∧ wc.length ≤ 1000 ∧ At L H 0 lk (.lst (linked.map V.int)) ∧ linked.length ≤ 1000 ∧
  WPost L H wd nums fr (mFailed ⟨nums, fr.map (·.2)⟩ ⟨wc.map (·.2), wl.map (·.2)⟩ p linked) Q
theorem ok_law_failed (T : Hd K mg) : OkD P w K mg base d_law_failed 3 P_law_failed (spLFailed) := by
  obtain ⟨fd, F⟩ := T.says.def_ 59 (d := d_law_failed) rfl
  obtain ⟨_, F_law_find, b_law_find, G_law_find⟩ := ok_law_find (P := P) (w := w) (base := base) T
  obtain ⟨_, F_law_not_reached, b_law_not_reached, G_law_not_reached⟩ := ok_law_not_reached (P := P) (w := w) (base := base) T
  refine ⟨fd, F, F.bindsN (ps := P_law_failed) (fun _ _ _ _ _ _ us hl => match us, hl with | [_, _, _], _ => rfl), F.ok sc_law_failed (fun vs H Q E h => sp3_len h) (fun cdv A outer s H vs Q E hr h => ?_)⟩
  have hu := hu_of hr
  obtain ⟨a, b, c, rfl, L, wd, B, nums, fr, wc, wl, p, lk, linked, rfl, rfl, rfl, ⟨N, hnd⟩, hfl, I, hlen, hlk, hll, k⟩ := h
  refine ⟨_, PSs.nox (pss_cons (ps_set (i := 3) sc_law_failed.nd rfl (Or.inl rfl) (pe_call G_law_find (hr.mono (by decide)) (by rfl) T.gl_law_find F_law_find.kp b_law_find .nil pass0 (pa_cons (pe_dget hu (pv 0) pe_str (fun _ _ => rfl)) (pa_cons (pv 1) pa_nil)))) (pss_cons (ps_if ((pw_or (pt_cmpR op_isN (pv 3) pe_non (nomark _)) (pw_or (pt_cmpR op_ne (pe_dget hu (pv 3) pe_str (fun _ _ => rfl)) (pv 1) (nomark _)) (pw_or1 (pt_cmpR op_ne (pe_dget hu (pv 3) pe_str (fun _ _ => rfl)) pe_str (nomark _)))))).pt (pss_one (ps_ret (pe_lst pa_nil))) pss_nil) (pss_one (ps_ret (pe_call G_law_not_reached (hr.mono (by decide)) (by rfl) T.gl_law_not_reached F_law_not_reached.kp b_law_not_reached .nil pass0 (pa_cons (pv 0) (pa_cons (pv 3) (pa_cons pe_str (pa_cons pe_int (pa_cons (pv 2) pa_nil)))))))))), ?_⟩
  refine ⟨_, rfl, _, _, rfl, dgCalls N.wd.1, _, rfl, _, _, rfl, L, wd, B, nums, fr, wc, wl, p, rfl, rfl, N, ?_⟩
  cases e : findA wc p with
  | none =>
    have em : mFailed ⟨nums, fr.map (·.2)⟩ ⟨wc.map (·.2), wl.map (·.2)⟩ p linked = ([], ⟨wc.map (·.2), wl.map (·.2)⟩) := by
      unfold mFailed
      simp only [← findA_snd, e, Option.map_none]
    refine ⟨_, rfl, rfl, _, rfl, iteT (iteT ?_)⟩
    refine ⟨Nat.zero_le _, fun l hl => ?_⟩
    rw [em] at k
    exact WPost.end_ N (new_nil hl) k
  | some x =>
    have hx := findA_mem e
    obtain ⟨cA, r⟩ := x
    have hc := N.calls _ hx
    refine ⟨_, rfl, rfl, _, rfl, iteF ?_⟩
    refine ⟨_, rfl, _, _, rfl, dgCalled hc.1, _, rfl, scal_oI2 _ _, _, rfl, ?_⟩
    show (if (!decide (oI r.called = V.int p)) = true then _ else _)
    rw [oI_eq]
    have no : ¬ (r.called = some p ∧ r.st = .looking) → mFailed ⟨nums, fr.map (·.2)⟩ ⟨wc.map (·.2), wl.map (·.2)⟩ p linked = ([], ⟨wc.map (·.2), wl.map (·.2)⟩) := fun z => by
      unfold mFailed
      simp only [← findA_snd, e, Option.map_some]
      rw [if_neg z]
    cases h1 : decide (r.called = some p) with
    | false =>
      refine iteT (iteT ?_)
      refine ⟨Nat.zero_le _, fun l hl => ?_⟩
      rw [no fun z => of_decide_eq_false h1 z.1] at k
      exact WPost.end_ N (new_nil hl) k
    | true =>
      refine iteF ⟨_, rfl, _, _, rfl, dgState hc.1, rfl, _, rfl, ?_⟩
      show (if (!decide (V.str r.st.s = V.str Stg.looking.s)) = true then _ else _)
      rw [eqStg]
      cases h2 : decide (r.st = .looking) with
      | false =>
        refine iteT ?_
        refine ⟨Nat.zero_le _, fun l hl => ?_⟩
        rw [no fun z => of_decide_eq_false h2 z.2] at k
        exact WPost.end_ N (new_nil hl) k
      | true =>
        have h2' := of_decide_eq_true h2
        have em : mFailed ⟨nums, fr.map (·.2)⟩ ⟨wc.map (·.2), wl.map (·.2)⟩ p linked = mNotReached ⟨nums, fr.map (·.2)⟩ ⟨wc.map (·.2), wl.map (·.2)⟩ r .ur 18 linked := by
          unfold mFailed
          simp only [← findA_snd, e, Option.map_some]
          rw [if_pos ⟨of_decide_eq_true h1, h2'⟩]
        rw [em] at k
        have hm : r ∈ wc.map (·.2) := List.mem_map.mpr ⟨_, hx, rfl⟩
        obtain ⟨g, hg, hg2⟩ := I.called r hm
        refine iteF ⟨_, rfl, _, rfl, _, rfl, _, _, _, _, _, rfl, L, wd, B, nums, fr, wc, wl, cA, r, g, .ur, 18, lk, linked, rfl, rfl, rfl, rfl, rfl, ⟨N, hnd⟩, hfl, hx, hg, hg2, line_none I hm (by rw [h2']; decide), hlen, hlk, hll, fun L' H' A' wc' wl' v st N' e1 e2 a _ => ?_⟩
        exact k L' H' A' wc' wl' v st N' e1 (by rw [mNotReached_ls]; exact e2) a
def spLStep : Sp := sp3 fun a b c H Q => ∃ (L : Lb) (wd : Addr) (A : WA) (nums : List Str) (fr : List (Addr × Fct)) (wc : List (Addr × CallR)) (wl : List (Addr × LineR)) (lk : Addr) (linked : List Int) (t : Int),
  a = .ref wd ∧ b = .ref lk ∧ c = .int t ∧ WN L H wd A nums fr wc wl ∧ fr.length = nums.length ∧ Inv0 nums.length ⟨wc.map (·.2), wl.map (·.2)⟩ ∧ wc.length ≤ 1000 ∧ At L H 0 lk (.lst (linked.map V.int)) ∧ linked.length ≤ 1000 ∧
  WPost L H wd nums fr (mStep ⟨nums, fr.map (·.2)⟩ ⟨wc.map (·.2), wl.map (·.2)⟩ linked t) Q
theorem ok_law_step (T : Hd K mg) : OkD P w K mg base d_law_step 3 P_law_step (spLStep) := by
  obtain ⟨fd, F⟩ := T.says.def_ 60 (d := d_law_step) rfl
  obtain ⟨_, F_law_not_reached, b_law_not_reached, G_law_not_reached⟩ := ok_law_not_reached (P := P) (w := w) (base := base) T
  obtain ⟨_, F_law_refuse, b_law_refuse, G_law_refuse⟩ := ok_law_refuse (P := P) (w := w) (base := base) T
  refine ⟨fd, F, F.bindsN (ps := P_law_step) (fun _ _ _ _ _ _ us hl => match us, hl with | [_, _, _], _ => rfl), F.ok sc_law_step (fun vs H Q E h => sp3_len h) (fun cdv A outer s H vs Q E hr h => ?_)⟩
  have hu := hu_of hr
  obtain ⟨a, b, c, rfl, L, wd, B, nums, fr, wc, wl, lk, linked, tk, rfl, rfl, rfl, N, hfl, I, hlen, hlk, hll, k⟩ := h
  refine ⟨_, PSs.nox (pss_cons (ps_set (i := 3) sc_law_step.nd rfl (Or.inl rfl) (pe_lst pa_nil)) (pss_cons (ps_for PassesOwn.never rfl (pi_list (pe_callTy call_list_of (by rfl) T.fr_list (by decide +kernel) (pa_cons (pe_dget hu (pv 0) pe_str (fun _ _ => rfl)) pa_nil))) (pg_name (i := 4) sc_law_step.nd rfl (Or.inl rfl)) (pss_one (ps_if ((pw_and (pt_cmpR op_in_seq (pe_dget hu (pv 4) pe_str (fun _ _ => rfl)) (pe_tup (pa_cons pe_str (pa_cons pe_str pa_nil))) rfl) (pw_and1 (pt_cmpR op_ge (pe_op op_sub (pv 2) (pe_dget hu (pv 4) pe_str (fun _ _ => rfl))) pe_int (nomark _))))).pt (pss_cons (ps_set (i := 5) sc_law_step.nd rfl (Or.inl rfl) (pe_dget hu (pv 4) pe_str (fun _ _ => rfl))) (pss_cons (ps_set (i := 3) sc_law_step.nd rfl (Or.inl rfl) (pe_op op_cat (pv 3) (pe_call G_law_not_reached (hr.mono (by decide)) (by rfl) T.gl_law_not_reached F_law_not_reached.kp b_law_not_reached .nil pass0 (pa_cons (pv 0) (pa_cons (pv 4) (pa_cons pe_str (pa_cons pe_int (pa_cons (pv 1) pa_nil)))))))) (pss_one (ps_set (i := 3) sc_law_step.nd rfl (Or.inl rfl) (pe_op op_cat (pv 3) (pe_call G_law_refuse (hr.mono (by decide)) (by rfl) T.gl_law_refuse F_law_refuse.kp b_law_refuse .nil pass0 (pa_cons (pv 5) (pa_cons pe_int pa_nil)))))))) pss_nil))) (pss_one (ps_ret (pv 3))))), ?_⟩
  refine ⟨Nat.zero_le _, fun la hla => ?_⟩
  refine ⟨_, rfl, _, _, rfl, dgCalls (upd_old N.wd.1 hla), _, _, rfl, .inl (SqL.of (upd_old N.cl.1 hla)), fun lr hlr => ?_⟩
  have nlr : lr ≠ la := fun z => by rw [z, upd_same] at hlr; cases hlr
  have hlr0 : H lr = none := upd_free hlr
  have stb : Step (fun _ => False) L H (setL (setL L la 0) lr 0) (upd (upd H la (.lst [])) lr (.lst (wc.map fun x => V.ref x.1))) :=
    (((Step.relab hla).trans (Step.alloc hla)).trans (Step.relab hlr)).trans (Step.alloc hlr)
  have Nb := N.keep stb fun _ _ _ z => z
  have hlkb := hlk.keep stb fun z => z
  have hblr : At (setL (setL L la 0) lr 0) (upd (upd H la (.lst [])) lr (.lst (wc.map fun x => V.ref x.1))) 0 lr (.lst (wc.map fun x => V.ref x.1)) := ⟨upd_same, setL_same⟩
  have hbla : At (setL (setL L la 0) lr 0) (upd (upd H la (.lst [])) lr (.lst (wc.map fun x => V.ref x.1))) 0 la (.lst []) := ⟨upd_off upd_same nlr.symm, by rw [setL_ne nlr.symm, setL_same]⟩
  generalize hHb : upd (upd H la (.lst [])) lr (.lst (wc.map fun x => V.ref x.1)) = Hb at stb Nb hlkb hblr hbla
  generalize hLb : setL (setL L la 0) lr 0 = Lb0 at stb Nb hlkb hblr hbla
  have kb := k.after (stb.mono fun _ z => z.elim)
  have no0 : ¬ S17 0 := fun z => absurd z.1 (by decide)
  have key := stepOk_all (E := ⟨nums, fr.map (·.2)⟩) (n := nums.length) rfl I linked tk
  refine ⟨lr, rfl, ⟨_, SqL.of hblr.1⟩, for_list (K := K) (a := lr) (xs := wc.map fun x => V.ref x.1)
    (fun i σ H2 => ∃ (L' : Lb) (B' : WA) (wc' : List (Addr × CallR)) (wl' : List (Addr × LineR)) (w : V) (u v : Option V), σ = [some (.ref wd), some (.ref lk), some (.int tk), some w, u, v] ∧
      Step S17 Lb0 Hb L' H2 ∧ WN L' H2 wd B' nums fr wc' wl' ∧ AL L' H2 0 w (((wc.map (·.2)).take i).foldl (stepTurn ⟨nums, fr.map (·.2)⟩ linked tk) ([], ⟨wc.map (·.2), wl.map (·.2)⟩)).1 ∧
      wc'.map (·.2) = (((wc.map (·.2)).take i).foldl (stepTurn ⟨nums, fr.map (·.2)⟩ linked tk) ([], ⟨wc.map (·.2), wl.map (·.2)⟩)).2.cs ∧ wl'.map (·.2) = (((wc.map (·.2)).take i).foldl (stepTurn ⟨nums, fr.map (·.2)⟩ linked tk) ([], ⟨wc.map (·.2), wl.map (·.2)⟩)).2.ls ∧
      ∀ j, i ≤ j → ∀ y, wc[j]? = some y → y ∈ wc')
    ⟨Lb0, B, wc, wl, .ref la, none, none, rfl, Step.refl, Nb, ⟨la, [], rfl, hbla, .nil⟩, rfl, rfl, fun _ _ y hy => List.mem_of_getElem? hy⟩
    (fun i σ H2 _ ⟨L', B', wc', wl', w, u, v, e, st, _⟩ => SqL.of (hblr.keep st no0).1) ?_ ?_⟩
  · rintro i x σ H2 hi ⟨L', B', wc', wl', w, u, v, rfl, st, N', aw, e1, e2, rest⟩
    obtain ⟨y, hy, rfl⟩ := map_at hi
    have hil := (List.getElem?_eq_some_iff.mp hy).1
    have hyc : (wc.map (·.2))[i]? = some y.2 := by rw [List.getElem?_map, hy]; rfl
    have hm := rest i (Nat.le_refl _) y hy
    have ok := key i (by show i ≤ (wc.map (·.2)).length; rw [List.length_map]; omega)
    have ef := foldl_take (f := stepTurn ⟨nums, fr.map (·.2)⟩ linked tk) (b := ([], ⟨wc.map (·.2), wl.map (·.2)⟩)) hyc
    generalize han : ((wc.map (·.2)).take i).foldl (stepTurn ⟨nums, fr.map (·.2)⟩ linked tk) ([], ⟨wc.map (·.2), wl.map (·.2)⟩) = an at aw e1 e2 ok ef
    obtain ⟨cA, r⟩ := y
    have hc := N'.calls _ hm
    refine ⟨_, rfl, _, _, rfl, dgState hc.1, by show 2 ≤ sizeLine; decide, fun tp htp => ⟨_, _, rfl, .inr (SqT.of upd_same), rfl, rfl, _, rfl, ?_⟩⟩
    show (if inV (.str r.st.s) [.str Stg.offered.s, .str Stg.ringing.s] = true then _ else _)
    rw [in2]
    have s3 := same_new (o := .tup [.str "offered", .str "ringing"]) htp
    have N3 := N'.same s3
    have st3 := st.trans (Step.same s3)
    have aw3 := aw.keep (S := S17) (Step.same s3) no0
    have hc3 := s3 _ _ hc.1
    have skip : dueB tk r = false → ∃ (L' : Lb) (B' : WA) (wc' : List (Addr × CallR)) (wl' : List (Addr × LineR)) (w' : V) (u v' : Option V), [some (V.ref wd), some (.ref lk), some (.int tk), some w, some (.ref cA), v] = [some (.ref wd), some (.ref lk), some (.int tk), some w', u, v'] ∧
        Step S17 Lb0 Hb L' (upd H2 tp (.tup [.str "offered", .str "ringing"])) ∧ WN L' (upd H2 tp (.tup [.str "offered", .str "ringing"])) wd B' nums fr wc' wl' ∧ AL L' (upd H2 tp (.tup [.str "offered", .str "ringing"])) 0 w' (((wc.map (·.2)).take (i + 1)).foldl (stepTurn ⟨nums, fr.map (·.2)⟩ linked tk) ([], ⟨wc.map (·.2), wl.map (·.2)⟩)).1 ∧
        wc'.map (·.2) = (((wc.map (·.2)).take (i + 1)).foldl (stepTurn ⟨nums, fr.map (·.2)⟩ linked tk) ([], ⟨wc.map (·.2), wl.map (·.2)⟩)).2.cs ∧ wl'.map (·.2) = (((wc.map (·.2)).take (i + 1)).foldl (stepTurn ⟨nums, fr.map (·.2)⟩ linked tk) ([], ⟨wc.map (·.2), wl.map (·.2)⟩)).2.ls ∧
        ∀ j, i + 1 ≤ j → ∀ y, wc[j]? = some y → y ∈ wc' := fun hd => by
      have et : stepTurn ⟨nums, fr.map (·.2)⟩ linked tk an r = an := by unfold stepTurn; rw [if_neg (by rw [hd]; exact Bool.false_ne_true)]
      rw [ef, et]
      exact ⟨L', B', wc', wl', w, _, _, rfl, st3, N3, aw3, e1, e2, fun j hj y hy => rest j (by omega) y hy⟩
    cases h1 : (decide (r.st = .offered) || decide (r.st = .ringing)) with
    | false =>
      refine iteF (iteF ?_)
      exact skip (by unfold dueB; rw [h1]; rfl)
    | true =>
      refine iteT ⟨_, rfl, _, rfl, _, _, rfl, dgSince hc3, _, _, rfl, rfl, _, _, rfl, rfl, _, rfl, ?_⟩
      show (if decide (16 ≤ tk - r.since) = true then _ else _)
      cases h2 : decide (16 ≤ tk - r.since) with
      | false =>
        refine iteF ?_
        exact skip (by unfold dueB; rw [h1, h2]; rfl)
      | true =>
        have hd : dueB tk r = true := by unfold dueB; rw [h1, h2]; rfl
        have et : stepTurn ⟨nums, fr.map (·.2)⟩ linked tk an r = (an.1 ++ (mNotReached ⟨nums, fr.map (·.2)⟩ an.2 r .un 19 linked).1 ++ refuseD (r.called.getD 0) 19, (mNotReached ⟨nums, fr.map (·.2)⟩ an.2 r .un 19 linked).2) := by unfold stepTurn; rw [if_pos hd]
        have hrm : r ∈ an.2.cs := by rw [← e1]; exact List.mem_map.mpr ⟨_, hm, rfl⟩
        obtain ⟨g, hg, hgv⟩ := ok.inv.called r hrm
        have ean : (⟨wc'.map (·.2), wl'.map (·.2)⟩ : Net) = an.2 := by rw [e1, e2]
        have lenA : wc'.length ≤ 1000 := by
          have q := ok.len
          rw [← e1, List.length_map] at q
          have q2 : wc'.length ≤ (wc.map (·.2)).length := q
          rw [List.length_map] at q2
          omega
        obtain ⟨p0, xs, rfl, hp0, td3⟩ := aw3
        refine iteT ⟨_, rfl, _, _, rfl, dgCalled hc3, ?_⟩
        refine ⟨_, rfl, _, rfl, _, rfl, _, rfl, _, _, _, _, _, rfl, L', wd, B', nums, fr, wc', wl', cA, r, g, .un, 19, lk, linked, rfl, rfl, rfl, rfl, rfl, ⟨N3, by rw [e1]; exact ok.inv.nd⟩, hfl, hm, hg, hgv, line_none ok.inv hrm (dueB_st hd), lenA, hlkb.keep st3 no0, hll, fun L4 H4 B4 wc4 wl4 w4 st4 N4 f1 f2 a4 f3 => ?_⟩
        rw [ean] at f1 a4
        obtain ⟨lw, ws, rfl, aw4, tw⟩ := a4
        have hp4 := hp0.keep st4 no0
        have td4 := td3.step st4
        have st04 := st3.trans st4
        have lx : xs.length ≤ 4 * i := by rw [td3.length]; exact ok.acts
        have lw2 : ws.length ≤ 2 := by rw [tw.length]; exact (notR_len _ _ _ _ _ _).2
        refine ⟨p0, lw, xs, ws, rfl, rfl, hp4.1, aw4.1, Nat.le_trans (show xs.length + ws.length ≤ 5000 by omega) (by decide), fun q hq => ?_⟩
        have st5 : Step S17 L4 H4 (setL L4 q 0) (upd H4 q (.lst (xs ++ ws))) := (Step.relab hq).trans (Step.alloc hq)
        have N5 := N4.keep (S := fun _ => False) (L' := setL L4 q 0) (H' := upd H4 q (.lst (xs ++ ws))) ((Step.relab hq).trans (Step.alloc hq)) fun _ _ _ z => z
        have td5 := (td4.append tw).step st5
        refine ⟨_, rfl, _, rfl, _, _, rfl, g, 19, by show oI r.called = _; rw [hg]; rfl, rfl, fun v6 H6 nw => ?_⟩
        obtain ⟨s6, l6, zs, rfl, hl6, hl6', t6⟩ := nw
        have hq6 : H6 q = some (.lst (xs ++ ws)) := s6 _ _ upd_same
        refine ⟨q, l6, _, _, rfl, rfl, hq6, hl6', ?_, fun q7 hq7 => ?_⟩
        · rw [List.length_append, t6.length]
          show xs.length + ws.length + 2 ≤ sizeLine
          exact Nat.le_trans (show xs.length + ws.length + 2 ≤ 5000 by omega) (by decide)
        have N6 := N5.same s6
        have td6 := td5.same s6
        have N7 := N6.keep (S := fun _ => False) (L' := setL (setL L4 q 0) q7 0) (H' := upd H6 q7 (.lst (xs ++ ws ++ zs))) ((Step.relab hq7).trans (Step.alloc hq7)) fun _ _ _ z => z
        have st7 := ((st04.trans st5).trans (Step.same s6)).trans (((Step.relab (k := 0) hq7).trans (Step.alloc (o := .lst (xs ++ ws ++ zs)) hq7)))
        refine ⟨_, B4, wc4, wl4, .ref q7, _, _, rfl, st7, N7, ⟨q7, _, rfl, ⟨upd_same, setL_same⟩, ?_⟩, ?_, ?_, ?_⟩
        · rw [ef, et]
          show TDs _ _ (an.1 ++ _ ++ refuseD (r.called.getD 0) 19)
          rw [hg]
          exact (td6.append t6).same (same_new hq7)
        · rw [ef, et]
          exact f1
        · rw [ef, et]
          show wl4.map (·.2) = (mNotReached ⟨nums, fr.map (·.2)⟩ an.2 r .un 19 linked).2.ls
          rw [mNotReached_ls, f2]
          exact e2
        · intro j hj y hyj
          refine f3 y (rest j (by omega) y hyj) fun q => ?_
          have hnd := callers_nd I.nd
          have q1 : ((wc.map (·.2)).map CallR.caller)[i]? = some r.caller := by rw [List.getElem?_map, hyc]; rfl
          have q2 : ((wc.map (·.2)).map CallR.caller)[j]? = some r.caller := by rw [List.getElem?_map, List.getElem?_map, hyj, ← q]; rfl
          have := nd_ix hnd q1 q2
          omega
  · rintro σ H2 ⟨L', B', wc', wl', w, u, v, rfl, st, N', aw, e1, e2, rest⟩
    have el : (wc.map (·.2)).take (wc.map fun x => V.ref x.1).length = wc.map (·.2) := List.take_of_length_le (by rw [List.length_map, List.length_map]; exact Nat.le_refl _)
    rw [el] at aw e1 e2
    refine ⟨_, rfl, ?_⟩
    exact kb L' H2 B' wc' wl' _ st N' e1 e2 aw
end
end Mob

set_option Elab.async false
set_option linter.all false
set_option maxRecDepth 100000
set_option maxHeartbeats 4000000
namespace Mob
open PySem PySem.Spec PyProof.Rows L2
section
variable {P : Program} {w : World} {K : PySem.W.Frag} {mg : Str → Option Value} {base : Heap}
/-! ### the law's small defs: mixed, cell, number, pick, word_of -/
def spMixed : Sp := sp2 fun a b H Q => ∃ x t : Int, a = .int x ∧ b = .int t ∧ ∀ y : Int, Q (.int y) H
theorem ok_law_mixed (T : Hd K mg) : OkD P w K mg base d_law_mixed 1 P_law_mixed (spMixed) := by
  obtain ⟨fd, F⟩ := T.says.def_ 41 (d := d_law_mixed) rfl
  refine ⟨fd, F, F.bindsN (ps := P_law_mixed) (fun _ _ _ _ _ _ us hl => match us, hl with | [_, _], _ => rfl), F.ok sc_law_mixed (fun vs H Q E h => sp2_len h) (fun cdv A outer s H vs Q E hr h => ?_)⟩
  have hu := hu_of hr
  obtain ⟨a, b, rfl, x, t, rfl, rfl, k⟩ := h
  refine ⟨_, PSs.nox (pss_cons (ps_set (i := 2) sc_law_mixed.nd rfl (Or.inl rfl) (pe_callTy call_int1 (by rfl) T.fr_int (by decide +kernel) (pa_cons (pv 0) pa_nil))) (pss_cons (ps_if (pt_cmpR op_ge (pv 2) (pe_op op_pow pe_int pe_int) (nomark _)) (pss_one (ps_ret (pv 2))) pss_nil) (pss_cons (ps_set (i := 3) sc_law_mixed.nd rfl (Or.inl rfl) (pe_op op_mod (pe_op op_add (pe_op op_mul (pe_op op_mod (pv 2) pe_int) pe_int) (pe_op op_mul pe_int (pe_op op_add (pv 1) pe_int))) pe_int)) (pss_cons (ps_set (i := 4) sc_law_mixed.nd rfl (Or.inl rfl) (pe_op op_mod (pe_op op_add (pe_op op_mul (pv 3) pe_int) (pe_op op_mod (pv 2) pe_int)) pe_int)) (pss_cons (ps_set (i := 5) sc_law_mixed.nd rfl (Or.inl rfl) (pe_op op_mod (pe_op op_add (pe_op op_mul (pv 4) pe_int) (pv 3)) pe_int)) (pss_one (ps_ret (pe_op op_add (pe_op op_add (pv 3) (pe_op op_mul pe_int (pv 4))) (pe_op op_mul pe_int (pv 5)))))))))), ?_⟩
  refine ⟨_, rfl, .inl ⟨x, rfl, ?_⟩⟩
  refine ⟨_, rfl, _, _, rfl, rfl, ⟨by decide, by decide, by decide⟩, _, _, rfl, rfl, _, rfl, ?_⟩
  refine ite2 (fun _ => ⟨_, rfl, k _⟩) (fun _ => ?_)
  refine ⟨_, rfl, _, _, rfl, rfl, (by show (0 : Int) < 1000003; decide), _, _, rfl, rfl, .inr ⟨by decide, by decide⟩, _, rfl, _, _, rfl, rfl, _, _, rfl, rfl, .inl ⟨by decide, by decide⟩, _, _, rfl, rfl, _, _, rfl, rfl, (by show (0 : Int) < 2147483647; decide), ?_⟩
  refine ⟨_, rfl, _, _, rfl, rfl, .inr ⟨by decide, by decide⟩, _, rfl, _, _, rfl, rfl, (by show (0 : Int) < 999983; decide), _, _, rfl, rfl, _, _, rfl, rfl, (by show (0 : Int) < 2147483647; decide), ?_⟩
  refine ⟨_, rfl, _, _, rfl, rfl, .inr ⟨by decide, by decide⟩, _, rfl, _, _, rfl, rfl, _, _, rfl, rfl, (by show (0 : Int) < 2147483647; decide), ?_⟩
  exact ⟨_, rfl, _, rfl, _, _, rfl, rfl, .inl ⟨by decide, by decide⟩, _, _, rfl, rfl, _, rfl, _, _, rfl, rfl, .inl ⟨by decide, by decide⟩, _, _, rfl, rfl, k _⟩
def spCell2 (K : PySem.W.Frag) : Sp := sp2 fun a b H Q => ∃ (sa : Addr) (ns : List Int) (k : Nat), a = .ref sa ∧ b = .int (k : Int) ∧ SqL K H sa (ns.map V.int) ∧ ∀ y : Int, Q (.int y) H
theorem ok_law_cell (T : Hd K mg) : OkD P w K mg base d_law_cell 2 P_law_cell (spCell2 K) := by
  obtain ⟨fd, F⟩ := T.says.def_ 42 (d := d_law_cell) rfl
  obtain ⟨_, F_law_mixed, b_law_mixed, G_law_mixed⟩ := ok_law_mixed (P := P) (w := w) (base := base) T
  refine ⟨fd, F, F.bindsN (ps := P_law_cell) (fun _ _ _ _ _ _ us hl => match us, hl with | [_, _], _ => rfl), F.ok sc_law_cell (fun vs H Q E h => sp2_len h) (fun cdv A outer s H vs Q E hr h => ?_)⟩
  have hu := hu_of hr
  obtain ⟨a, b, rfl, sa, ns, i, rfl, rfl, hs, k⟩ := h
  refine ⟨_, PSs.nox (pss_cons (ps_if (pt_cmpR op_lt (pv 1) (pe_callB call_len_seq (by rfl) T.fr_len PySem.boot_len (pa_cons (pv 0) pa_nil)) (nomark _)) (pss_one (ps_ret (pe_call G_law_mixed (hr.mono (by decide)) (by rfl) T.gl_law_mixed F_law_mixed.kp b_law_mixed .nil pass0 (pa_cons (pe_ix ix_list (pv 0) (pv 1) (fun _ _ => rfl)) (pa_cons (pv 1) pa_nil))))) pss_nil) (pss_one (ps_ret (pe_call G_law_mixed (hr.mono (by decide)) (by rfl) T.gl_law_mixed F_law_mixed.kp b_law_mixed .nil pass0 (pa_cons pe_int (pa_cons (pv 1) pa_nil)))))), ?_⟩
  refine ⟨_, rfl, _, rfl, _, _, rfl, .inl hs, _, _, rfl, rfl, _, rfl, ?_⟩
  show (if decide ((i : Int) < (((ns.map V.int).length : Nat) : Int)) = true then _ else _)
  cases h1 : decide ((i : Int) < (((ns.map V.int).length : Nat) : Int)) with
  | true =>
    have hi : i < ns.length := by
      have := of_decide_eq_true h1
      rw [List.length_map] at this
      omega
    refine iteT ⟨_, rfl, _, rfl, sa, _, _, _, rfl, rfl, hs, atI_nat (by rw [List.getElem?_map, List.getElem?_eq_getElem hi]; rfl), _, rfl, _, _, rfl, _, _, rfl, rfl, k⟩
  | false =>
    refine iteF ⟨_, rfl, _, _, rfl, _, _, rfl, rfl, k⟩
def NumP (x : Str) (k : Nat) : Prop := x.cps.toList.getLast? = some (48 + k) ∧ PyData.canLay0 (.str x) = true
theorem last_num (m : Nat) : (Str.ofString (toString ((m : Nat) : Int))).cps.toList.getLast? = some (48 + m % 10) := by
  have e := PySem.W.KIN.signs_num m
  rw [e]
  have hd : ∀ d, d < 10 → (Nat.toDigits 10 d).map Char.toNat = [48 + d] := by
    intro d hd
    rw [Nat.toDigits_of_lt_base hd]
    match d, hd with
    | 0, _ => rfl
    | 1, _ => rfl
    | 2, _ => rfl
    | 3, _ => rfl
    | 4, _ => rfl
    | 5, _ => rfl
    | 6, _ => rfl
    | 7, _ => rfl
    | 8, _ => rfl
    | 9, _ => rfl
  have hm : m % 10 < 10 := Nat.mod_lt _ (by decide)
  by_cases h : m / 10 = 0
  · have : m = m % 10 := by omega
    rw [this, hd _ hm]
    simp
  · have h2 := Nat.toDigits_append_toDigits (b := 10) (n := m / 10) (d := m % 10) (by decide) (by omega) hm
    have h3 : 10 * (m / 10) + m % 10 = m := by omega
    rw [h3] at h2
    rw [← h2, List.map_append, hd _ hm]
    simp
theorem ok_num (m : Nat) : ∀ c ∈ (Str.ofString (toString ((m : Nat) : Int))).cps.toList, c < 0x110000 := by
  intro c hc
  rw [PySem.W.KIN.signs_num m] at hc
  obtain ⟨d, _, rfl⟩ := List.mem_map.mp hc
  have := d.valid
  have h2 : d.toNat < 0x110000 := by
    rcases this with h | h
    · have : d.toNat = d.val.toNat := rfl
      omega
    · have : d.toNat = d.val.toNat := rfl
      omega
  exact h2
theorem repS_ok (k : Nat) : ∀ c ∈ (repS k "0").cps.toList, c < 0x110000 := by
  have key : ∀ (k : Nat) (a : Array Nat), (∀ c ∈ a.toList, c < 0x110000) → ∀ c ∈ ((List.replicate k ("0" : Str).cps).foldl (· ++ ·) a).toList, c < 0x110000 := by
    intro k
    induction k with
    | zero => intro a h; exact h
    | succ k ih =>
      intro a h
      rw [List.replicate_succ, List.foldl_cons]
      refine ih _ fun c hc => ?_
      rw [Array.toList_append] at hc
      rcases List.mem_append.mp hc with q | q
      · exact h c q
      · have : c = 48 := by simpa using (show c ∈ [48] from q)
        omega
  exact key k #[] (by simp)
theorem numP_mk (z m k : Nat) (h : m % 10 = k) : NumP (repS z "0" ++ Str.ofString (toString ((m : Nat) : Int))) k := by
  have e : (repS z "0" ++ Str.ofString (toString ((m : Nat) : Int))).cps.toList = (repS z "0").cps.toList ++ (Str.ofString (toString ((m : Nat) : Int))).cps.toList := by
    show ((repS z "0").cps ++ (Str.ofString (toString ((m : Nat) : Int))).cps).toList = _
    rw [Array.toList_append]
  refine ⟨?_, ?_⟩
  · rw [e, List.getLast?_append, last_num, h]
    rfl
  · show (repS z "0" ++ Str.ofString (toString ((m : Nat) : Int))).cps.all (· < 0x110000) = true
    rw [← Array.all_toList, e, List.all_append]
    simp only [Bool.and_eq_true, List.all_eq_true, decide_eq_true_eq]
    exact ⟨repS_ok z, ok_num m⟩
def spNumber (K : PySem.W.Frag) : Sp := sp2 fun a b H Q => ∃ (sa : Addr) (ns : List Int) (k : Nat), a = .ref sa ∧ b = .int (k : Int) ∧ k < 8 ∧ SqL K H sa (ns.map V.int) ∧ ∀ x : Str, NumP x (k + 1) → Q (.str x) H
theorem ok_law_number (T : Hd K mg) : OkD P w K mg base d_law_number 3 P_law_number (spNumber K) := by
  obtain ⟨fd, F⟩ := T.says.def_ 43 (d := d_law_number) rfl
  obtain ⟨_, F_law_cell, b_law_cell, G_law_cell⟩ := ok_law_cell (P := P) (w := w) (base := base) T
  refine ⟨fd, F, F.bindsN (ps := P_law_number) (fun _ _ _ _ _ _ us hl => match us, hl with | [_, _], _ => rfl), F.ok sc_law_number (fun vs H Q E h => sp2_len h) (fun cdv A outer s H vs Q E hr h => ?_)⟩
  have hu := hu_of hr
  obtain ⟨a, b, rfl, sa, ns, i, rfl, rfl, hi, hs, k⟩ := h
  refine ⟨_, PSs.nox (pss_cons (ps_set (i := 2) sc_law_number.nd rfl (Or.inl rfl) (pe_call G_law_cell (hr.mono (by decide)) (by rfl) T.gl_law_cell F_law_cell.kp b_law_cell .nil pass0 (pa_cons (pv 0) (pa_cons (pe_op op_add (pe_op op_mul pe_int (pv 1)) pe_int) pa_nil)))) (pss_one (ps_ret (pe_op op_add_str (pe_op op_mul_str pe_str (pe_op op_mod (pe_op op_fdiv (pv 2) pe_int) pe_int)) (pe_callTy call_str_int (by rfl) T.fr_str (by decide +kernel) (pa_cons (pe_op op_add (pe_op op_add (pe_op op_mul (pe_op op_mod (pv 2) pe_int) pe_int) (pv 1)) pe_int) pa_nil)))))), ?_⟩
  refine ⟨_, rfl, _, rfl, _, _, rfl, rfl, .inl ⟨by decide, by decide⟩, _, _, rfl, rfl, _, _, rfl, sa, ns, 2 * i + 1, rfl, by show V.int (2 * (i : Int) + 1) = _; rw [show (2 * (i : Int) + 1) = ((2 * i + 1 : Nat) : Int) by omega], hs, fun c => ?_⟩
  have h3 : c / 900 % 3 = 0 ∨ c / 900 % 3 = 1 ∨ c / 900 % 3 = 2 := by omega
  have hm0 := Int.emod_nonneg c (show (900 : Int) ≠ 0 by decide)
  have hm1 := Int.emod_lt_of_pos c (show (0 : Int) < 900 by decide)
  obtain ⟨m, hm⟩ : ∃ m : Nat, c % 900 * 10 + (i : Int) + 1 = (m : Int) := ⟨(c % 900 * 10 + (i : Int) + 1).toNat, by omega⟩
  have hmb : m < 9010 := by omega
  have hmd : m % 10 = i + 1 := by omega
  refine ⟨_, rfl, _, _, rfl, rfl, ⟨by decide, by decide⟩, _, _, rfl, rfl, (by show (0 : Int) < 3; decide), "0", _, rfl, rfl, by decide +kernel, h3, _, rfl, _, _, rfl, rfl, (by show (0 : Int) < 900; decide), _, _, rfl, rfl, .inr ⟨by decide, by decide⟩, _, rfl, _, _, rfl, rfl, _, _, rfl, rfl, _, rfl, ?_⟩
  show (c % 900 * 10 + (i : Int) + 1).natAbs.log2 < 1920 ∧ _
  rw [hm]
  refine ⟨?_, ?_⟩
  · rw [Int.natAbs_natCast]
    by_cases hz : m = 0
    · subst hz; decide
    · exact (Nat.log2_lt hz).mpr (Nat.lt_of_lt_of_le hmb (Nat.le_trans (show 9010 ≤ 2 ^ 14 by decide) (Nat.pow_le_pow_right (by decide) (by decide))))
  refine ⟨_, _, rfl, rfl, ?_, ?_⟩
  · rw [repS_len _ _ (by decide +kernel)]
    have := PySem.W.KT.len_num (n := (m : Int)) (by omega) (by omega)
    refine Nat.le_trans (Nat.add_le_add (show (c / 900 % 3).toNat ≤ 2 by omega) this) (by decide)
  · exact k _ (numP_mk _ m (i + 1) hmd)
def pickS (nums : List Str) (d : Nat) : Option Str := if d < nums.length then nums[d]? else if d = nums.length then some "99990" else none
def spPick (K : PySem.W.Frag) : Sp := sp2 fun a b H Q => ∃ (na : Addr) (nums : List Str) (d : Nat), a = .ref na ∧ b = .int (d : Int) ∧ SqL K H na (nums.map V.str) ∧ Q (oS (pickS nums d)) H
theorem ok_law_pick (T : Hd K mg) : OkD P w K mg base d_law_pick 1 P_law_pick (spPick K) := by
  obtain ⟨fd, F⟩ := T.says.def_ 44 (d := d_law_pick) rfl
  refine ⟨fd, F, F.bindsN (ps := P_law_pick) (fun _ _ _ _ _ _ us hl => match us, hl with | [_, _], _ => rfl), F.ok sc_law_pick (fun vs H Q E h => sp2_len h) (fun cdv A outer s H vs Q E hr h => ?_)⟩
  have hu := hu_of hr
  obtain ⟨a, b, rfl, na, nums, d, rfl, rfl, hs, k⟩ := h
  refine ⟨_, PSs.nox (pss_cons (ps_if (pt_cmpR op_lt (pv 1) (pe_callB call_len_seq (by rfl) T.fr_len PySem.boot_len (pa_cons (pv 0) pa_nil)) (nomark _)) (pss_one (ps_ret (pe_ix ix_list (pv 0) (pv 1) (fun _ _ => rfl)))) pss_nil) (pss_cons (ps_if (pt_cmpR op_eq (pv 1) (pe_callB call_len_seq (by rfl) T.fr_len PySem.boot_len (pa_cons (pv 0) pa_nil)) (nomark _)) (pss_one (ps_ret pe_str)) pss_nil) (pss_one (ps_ret pe_non)))), ?_⟩
  refine ⟨_, rfl, _, rfl, _, _, rfl, .inl hs, _, _, rfl, rfl, _, rfl, ?_⟩
  show (if decide ((d : Int) < (((nums.map V.str).length : Nat) : Int)) = true then _ else _)
  rw [List.length_map]
  unfold pickS at k
  by_cases h1 : d < nums.length
  · rw [if_pos h1, List.getElem?_eq_getElem h1] at k
    rw [decide_eq_true (by omega)]
    exact iteT ⟨_, rfl, _, rfl, na, _, _, _, rfl, rfl, hs, atI_nat (by rw [List.getElem?_map, List.getElem?_eq_getElem h1]; rfl), k⟩
  · rw [if_neg h1] at k
    rw [decide_eq_false (by omega)]
    refine iteF ⟨_, rfl, _, rfl, _, _, rfl, .inl hs, rfl, _, rfl, ?_⟩
    show (if decide (V.int (d : Int) = V.int (((nums.map V.str).length : Nat) : Int)) = true then _ else _)
    rw [decVI, List.length_map]
    by_cases h2 : d = nums.length
    · rw [if_pos h2] at k
      rw [decide_eq_true (by omega)]
      exact iteT k
    · rw [if_neg h2] at k
      rw [decide_eq_false (by omega)]
      exact iteF k
def wordD (v : Int) : PyData := .tuple ((List.range (1 + v % 40).toNat).map fun k : Nat => PyData.int ((v + 7 * (k : Int)) % 256))
def spWordOf : Sp := sp1 fun a H Q => ∃ v : Int, a = .int v ∧ ∀ t H', Same H H' → TD H' (.ref t) (wordD v) → Q (.ref t) H'
theorem ok_law_word_of (T : Hd K mg) : OkD P w K mg base d_law_word_of 1 P_law_word_of (spWordOf) := by
  obtain ⟨fd, F⟩ := T.says.def_ 61 (d := d_law_word_of) rfl
  refine ⟨fd, F, F.bindsN (ps := P_law_word_of) (fun _ _ _ _ _ _ us hl => match us, hl with | [_], _ => rfl), F.ok sc_law_word_of (fun vs H Q E h => sp1_len h) (fun cdv A outer s H vs Q E hr h => ?_)⟩
  have hu := hu_of hr
  obtain ⟨a, rfl, v, rfl, k⟩ := h
  refine ⟨_, PSs.nox (pss_one (ps_ret (pe_callTy call_tuple_of (by rfl) T.fr_tuple (by decide +kernel) (pa_cons (pe_lc (own := [("_law_k", 1)]) (g := gName 1) (tt := tYes) rfl sc_law_word_of.nd (pi_range1 rfl T.fr_range (pa_cons (pe_op op_add pe_int (pe_op op_mod (pv 0) pe_int)) pa_nil)) (blkOk_by (own := [("_law_k", 1)]) (N := N_law_word_of) (sc := defScope s_law_word_of) (by decide +kernel)) (fun _ _ _ _ _ => pg_name (i := 1) sc_law_word_of.nd rfl (Or.inl rfl)) (fun _ _ _ _ _ => pts_nil) (fun _ _ _ _ _ => (pe_op op_mod (pe_op op_add (pv 0) (pe_op op_mul pe_int (pv 1))) pe_int))) pa_nil)))), ?_⟩
  have h0 := Int.emod_nonneg v (show (40 : Int) ≠ 0 by decide)
  have h1 := Int.emod_lt_of_pos v (show (0 : Int) < 40 by decide)
  refine ⟨_, rfl, _, _, rfl, rfl, (by show (0 : Int) < 40; decide), _, _, rfl, rfl, _, rfl, by omega, by omega, fun D hD => lc_range (lo := 0) (n := (1 + v % 40).toNat) (fun i H2 => Same H H2 ∧ H2 D = some (.lst ((List.range i).map fun k : Nat => V.int ((v + 7 * (k : Int)) % 256)))) ⟨same_new hD, upd_same⟩ ?_ ?_⟩
  · rintro i H2 hi ⟨s2, h2⟩
    refine ⟨rfl, ?_⟩
    refine ⟨_, rfl, _, rfl, _, _, rfl, rfl, .inl ⟨by decide, by decide⟩, _, _, rfl, rfl, _, _, rfl, rfl, (by show (0 : Int) < 256; decide), _, h2, ?_, same_mut s2 hD, ?_⟩
    · rw [List.length_map, List.length_range]
      exact small1000 (by omega)
    · rw [upd_same, List.range_succ, List.map_append]
      simp
  · rintro H2 ⟨s2, h2⟩
    refine ⟨D, _, rfl, .inl ⟨SqL.of h2, fun t ht => ?_⟩⟩
    refine k t _ (s2.trans (same_new ht)) (.tup upd_same ?_)
    have key : ∀ (l : List Nat) (H : Hp), TDs H (l.map fun k : Nat => V.int ((v + 7 * (k : Int)) % 256)) (l.map fun k : Nat => PyData.int ((v + 7 * (k : Int)) % 256)) := by
      intro l H
      induction l with
      | nil => exact .nil
      | cons a l ih => exact .cons (.int _) ih
    exact key _ _
end
end Mob

set_option Elab.async false
set_option linter.all false
set_option maxRecDepth 100000
set_option maxHeartbeats 4000000
namespace Mob
open PySem PySem.Spec PyProof.Rows L2
/-- a list == [] -/
def rEqNil : R2 := fun x y H Q => ∃ l b xs, x = .ref l ∧ y = .ref b ∧ H l = some (.lst xs) ∧ H b = some (.lst []) ∧ Q (.bl xs.isEmpty) H
theorem op_eqNil {X : Cx} (hu : X.A.units + 64 < cLine) : OpR X (compareOp .Eq) rEqNil := by
  intro pins s σ H x y v u Q I rx ry h
  obtain ⟨l, b, xs, rfl, rfl, hl, hb, q⟩ := h
  cases xs with
  | nil => exact op_eqD hu pins s σ H (.ref l) (.ref b) v u Q I rx ry ⟨.list [], .list [], .lst (SqL.of hl) .nil, .lst (SqL.of hb) .nil, by decide, by decide, q⟩
  | cons z zs =>
    cases rx
    cases ry
    obtain ⟨_, its, n, r, hlen, e⟩ := I.lstM hl
    obtain ⟨_, its2, n2, r2, hlen2, e2⟩ := I.lstM hb
    refine PySem.SeqAt.eq_list_lengthsAt (items := its.toArray) (items2 := its2.toArray) ⟨_, e, rfl, n, rfl⟩ ⟨_, e2, rfl, n2, rfl⟩ ?_ (by omega) ?_
    · rw [List.size_toArray, List.size_toArray, ← hlen, ← hlen2]
      simp
    · exact ⟨.bl false, H, I, rfl, q⟩
end Mob

set_option Elab.async false
set_option linter.all false
set_option maxRecDepth 100000
set_option maxHeartbeats 4000000
namespace Mob
open PySem PySem.Spec PyProof.Rows L2
section
variable {P : Program} {w : World} {K : PySem.W.Frag} {mg : Str → Option Value} {base : Heap}
/-! ### the law's change and choose -/
def Schg (n : Nat) : Prop := (1 ≤ n ∧ n ≤ 4) ∨ (11 ≤ n ∧ n ≤ 17)
theorem WN.setFact {L : Lb} {H : Hp} {wd : Addr} {A : WA} {nums : List Str} {fr : List (Addr × Fct)} {wc : List (Addr × CallR)} {wl : List (Addr × LineR)} (N : WN L H wd A nums fr wc wl) {i : Nat} {c : Addr} {f f' : Fct} (hi : fr[i]? = some (c, f)) :
    WN L (upd H c (.dK (factKvs f'))) wd A nums (fr.set i (c, f')) wc wl := by
  have hc := N.facts _ (List.mem_of_getElem? hi)
  refine ⟨N.wd.off hc.2 (by decide), N.nl.off hc.2 (by decide), ?_, fun x hm => ?_, N.cl.off hc.2 (by decide), N.ll.off hc.2 (by decide), fun x hm => (N.calls x hm).off hc.2 (by decide), fun x hm => ?_, N.nd, ?_⟩
  · rw [map_set (f := fun x : Addr × Fct => V.ref x.1) (y := (c, f')) hi rfl]
    exact N.fl.off hc.2 (by decide)
  · rcases mem_set_at hi hm with rfl | ⟨j, hj, hz⟩
    · exact At.at hc.2
    · exact (N.facts x (List.mem_of_getElem? hz)).offA fun q => hj (nd_at (f := fun x : Addr × Fct => x.1) N.ndf hz hi q)
  · have := N.lines x hm
    exact upd_off this (ne_of this hc.1 (by intro z; cases z))
  · rw [map_set (f := fun x : Addr × Fct => x.1) (y := (c, f')) hi rfl]
    exact N.ndf
theorem Says.set {ps : List PRec} {nums : List Str} {fs : List Fct} (h : Says ps ⟨nums, fs⟩) {i : Nat} {x y : PRec} {f' : Fct} (hx : ps[i]? = some x) (en : y.num = x.num) (ea : y.ar = oI f'.ar) (ek : y.kvs = numKvs f') : Says (ps.set i y) ⟨nums, fs.set i f'⟩ := by
  have hil := (List.getElem?_eq_some_iff.mp hx).1
  have hfl : fs.length = ps.length := h.len
  refine ⟨?_, ?_, fun j z hz => ?_⟩
  · show nums = _
    rw [map_set (f := fun x : PRec => x.num) hx en]
    exact h.nums
  · show (fs.set i f').length = (ps.set i y).length
    rw [List.length_set, List.length_set]
    exact hfl
  · rw [List.getElem?_set] at hz
    split at hz
    · rename_i q
      subst q
      cases hz
      have e : (fs.set i f').getD i fct0 = f' := by
        rw [List.getD_eq_getElem?_getD, List.getElem?_set, if_pos rfl, if_pos (by omega)]
        rfl
      show _ = oI ((fs.set i f').getD i fct0).ar ∧ _ = numKvs ((fs.set i f').getD i fct0)
      rw [e]
      exact ⟨ea, ek⟩
    · rename_i q
      have e : (fs.set i f').getD j fct0 = fs.getD j fct0 := by
        rw [List.getD_eq_getElem?_getD, List.getElem?_set, if_neg q, ← List.getD_eq_getElem?_getD]
      show _ = oI ((fs.set i f').getD j fct0).ar ∧ _ = numKvs ((fs.set i f').getD j fct0)
      rw [e]
      exact h.ok j z hz
theorem dpArea {H : Hp} {a : Addr} {f : Fct} (h : H a = some (.dK (factKvs f))) (t : Int) : DPut H a (.str "area") (.int t) (upd H a (.dK (factKvs { f with ar := some t }))) := DPut.k (k := Sum.inr "area") h len5
theorem dpKd {H : Hp} {a : Addr} {f : Fct} (h : H a = some (.dK (factKvs f))) (k : Kd) (x : Option Str) : DPut H a (.str k.s) (oS x) (upd H a (.dK (factKvs (f.setFw k x)))) := by
  have e : putK (factKvs f) (Sum.inr k.s) (oS x) = factKvs (f.setFw k x) := by cases k <;> rfl
  rw [← e]
  exact DPut.k (k := Sum.inr k.s) h len5
theorem setFw_get (f : Fct) (k : Kd) (x : Option Str) : (f.setFw k x).fw k = x := by cases k <;> rfl
theorem setFw_ar (f : Fct) (k : Kd) (x : Option Str) : (f.setFw k x).ar = f.ar := by cases k <;> rfl
theorem kd_at (j : Nat) (h : j < 4) : ∃ k : Kd, ([.str "always", .str "busy", .str "unanswered", .str "unreachable"] : List V)[j]? = some (.str k.s) := by
  match j, h with
  | 0, _ => exact ⟨.al, rfl⟩
  | 1, _ => exact ⟨.bu, rfl⟩
  | 2, _ => exact ⟨.un, rfl⟩
  | 3, _ => exact ⟨.ur, rfl⟩
def spChange (K : PySem.W.Frag) : Sp := sp3 fun a b c H Q => ∃ (L : Lb) (wd : Addr) (A : WA) (nums : List Str) (fr : List (Addr × Fct)) (wc : List (Addr × CallR)) (wl : List (Addr × LineR)) (ho : Addr) (Ah : HA) (ps : List PRec) (v : Int),
  a = .ref wd ∧ b = .ref ho ∧ c = .int v ∧ WN L H wd A nums fr wc wl ∧ HM K L H ho Ah ps ∧ Says ps ⟨nums, fr.map (·.2)⟩ ∧ fr.length = nums.length ∧ 0 < nums.length ∧
  ∀ (L' : Lb) (H' : Hp) (fr' : List (Addr × Fct)) (ps' : List PRec) (w : V), Step Schg L H L' H' → WN L' H' wd A nums fr' wc wl → HM K L' H' ho Ah ps' → Says ps' ⟨nums, fr'.map (·.2)⟩ → fr'.length = nums.length → Q w H'
theorem ok_law_change (T : Hd K mg) : OkD P w K mg base d_law_change 3 P_law_change (spChange K) := by
  obtain ⟨fd, F⟩ := T.says.def_ 62 (d := d_law_change) rfl
  obtain ⟨_, F_Home_set_area, b_Home_set_area, G_Home_set_area⟩ := ok_Home_set_area (P := P) (w := w) (base := base) T
  obtain ⟨_, F_law_pick, b_law_pick, G_law_pick⟩ := ok_law_pick (P := P) (w := w) (base := base) T
  obtain ⟨_, F_Home_set_forward, b_Home_set_forward, G_Home_set_forward⟩ := ok_Home_set_forward (P := P) (w := w) (base := base) T
  refine ⟨fd, F, F.bindsN (ps := P_law_change) (fun _ _ _ _ _ _ us hl => match us, hl with | [_, _, _], _ => rfl), F.ok sc_law_change (fun vs H Q E h => sp3_len h) (fun cdv A outer s H vs Q E hr h => ?_)⟩
  have hu := hu_of hr
  obtain ⟨a, b, c, rfl, L, wd, B, nums, fr, wc, wl, ho, Ah, ps, v, rfl, rfl, rfl, N, M, Sy, hfl, hn, k⟩ := h
  refine ⟨_, PSs.nox (pss_cons (ps_set (i := 3) sc_law_change.nd rfl (Or.inl rfl) (pe_op op_mod (pv 2) (pe_callB call_len_seq (by rfl) T.fr_len PySem.boot_len (pa_cons (pe_dget hu (pv 0) pe_str (fun _ _ => rfl)) pa_nil)))) (pss_cons (ps_set (i := 4) sc_law_change.nd rfl (Or.inl rfl) (pe_ix ix_list (pe_dget hu (pv 0) pe_str (fun _ _ => rfl)) (pv 3) (fun _ _ => rfl))) (pss_one (ps_if (pt_cmpR op_eq (pe_op op_mod (pe_op op_fdiv (pv 2) pe_int) pe_int) pe_int (nomark _)) (pss_cons (ps_dput hu (pv 4) pe_str (pe_op op_mod (pe_op op_fdiv (pv 2) pe_int) pe_int) rfl) (pss_one (ps_expr (pe_meth (pv 1) T.cl_Home T.me_Home_set_area G_Home_set_area (hr.mono (by decide)) b_Home_set_area .nil pass0 (pa_cons (pv 3) (pa_cons (pe_dget hu (pv 4) pe_str (fun _ _ => rfl)) pa_nil)))))) (pss_cons (ps_set (i := 5) sc_law_change.nd rfl (Or.inl rfl) (pe_ix ix_list (pe_lst (pa_cons pe_str (pa_cons pe_str (pa_cons pe_str (pa_cons pe_str pa_nil))))) (pe_op op_mod (pe_op op_fdiv (pv 2) pe_int) pe_int) (fun _ _ => rfl))) (pss_cons (ps_dput hu (pv 4) (pv 5) (pe_call G_law_pick (hr.mono (by decide)) (by rfl) T.gl_law_pick F_law_pick.kp b_law_pick .nil pass0 (pa_cons (pe_dget hu (pv 0) pe_str (fun _ _ => rfl)) (pa_cons (pe_op op_mod (pe_op op_fdiv (pv 2) pe_int) (pe_op op_add (pe_callB call_len_seq (by rfl) T.fr_len PySem.boot_len (pa_cons (pe_dget hu (pv 0) pe_str (fun _ _ => rfl)) pa_nil)) pe_int)) pa_nil))) rfl) (pss_one (ps_expr (pe_meth (pv 1) T.cl_Home T.me_Home_set_forward G_Home_set_forward (hr.mono (by decide)) b_Home_set_forward .nil pass0 (pa_cons (pv 3) (pa_cons (pv 5) (pa_cons (pe_dget hu (pv 4) (pv 5) (fun _ _ => rfl)) pa_nil)))))))))))), ?_⟩
  have hn0 : (0 : Int) < (nums.length : Int) := by omega
  have m0 := Int.emod_nonneg v (show (nums.length : Int) ≠ 0 by omega)
  have m1 := Int.emod_lt_of_pos v hn0
  obtain ⟨i, hi⟩ : ∃ i : Nat, v % (nums.length : Int) = (i : Int) := ⟨(v % (nums.length : Int)).toNat, by omega⟩
  have hil : i < fr.length := by omega
  obtain ⟨y, hy⟩ : ∃ y, fr[i]? = some y := ⟨fr[i], List.getElem?_eq_getElem hil⟩
  obtain ⟨fa0, fc⟩ := y
  obtain ⟨pr, hpr⟩ := Sy.at_ (i := i) (by show i < nums.length; omega)
  have hfc := N.facts _ (List.mem_of_getElem? hy)
  have efc : (fr.map (·.2)).getD i fct0 = fc := by rw [List.getD_eq_getElem?_getD, List.getElem?_map, hy]; rfl
  have hok := Sy.ok i pr hpr
  have hok : pr.ar = oI fc.ar ∧ pr.kvs = numKvs fc := by rw [← efc]; exact hok
  have hat : atI (fr.map fun x => V.ref x.1) ((i : Nat) : Int) = some (.ref fa0) := atI_nat (by rw [List.getElem?_map, hy]; rfl)
  refine ⟨_, rfl, _, rfl, _, _, rfl, dgNumbers N.wd.1, _, _, rfl, .inl (SqL.of N.nl.1), _, _, rfl, rfl, ?_⟩
  rw [List.length_map]
  refine ⟨hn0, ?_⟩
  show tSeq _ _ _ [some (.ref wd), some (.ref ho), some (.int v), some (.int (v % (nums.length : Int))), none, none] H
  rw [hi]
  refine ⟨_, rfl, _, _, rfl, dgFacts N.wd.1, _, rfl, B.fl, _, _, _, rfl, rfl, SqL.of N.fl.1, hat, ?_⟩
  refine ⟨_, rfl, _, _, rfl, rfl, ⟨by decide, by decide⟩, _, _, rfl, rfl, (by show (0 : Int) < 3; decide), rfl, _, rfl, ?_⟩
  refine ite2 (fun _ => ?_) (fun _ => ?_)
  · refine ⟨_, rfl, _, _, rfl, rfl, ⟨by decide, by decide⟩, _, _, rfl, rfl, (by show (0 : Int) < 4; decide), _, rfl, _, _, rfl, dpArea hfc.1 _, ?_⟩
    have st1 : Step Schg L H L (upd H fa0 (.dK (factKvs { fc with ar := some (v / 24 % 4) }))) := Step.write hfc.1 (by intro _ z; cases z) (by rw [hfc.2]; exact .inr ⟨by decide, by decide⟩)
    have N1 := N.setFact (f' := { fc with ar := some (v / 24 % 4) }) hy
    have M1 := M.keep (S := fun n => n = 14) (Step.write hfc.1 (by intro _ z; cases z) hfc.2) (L' := L) (H' := upd H fa0 (.dK (factKvs { fc with ar := some (v / 24 % 4) }))) (fun k q1 q2 z => by omega)
    refine ⟨_, rfl, ho, _, _, rfl, M1.ho.1, rfl, _, rfl, _, rfl, _, _, rfl, dgArea upd_same, _, _, _, rfl, L, ho, Ah, ps, i, pr, rfl, rfl, M1, hpr, fun H2 st2 M2 => ?_⟩
    refine k L H2 _ _ _ (st1.trans (st2.mono fun n z => .inl z)) (N1.keep st2 fun k q1 q2 z => by have := z.2; omega) M2 ?_ (by rw [List.length_set]; exact hfl)
    rw [List.map_set]
    exact Sy.set (f' := { fc with ar := some (v / 24 % 4) }) hpr rfl rfl hok.2
  · have q0 := Int.emod_nonneg (v / 24) (show (4 : Int) ≠ 0 by decide)
    have q1 := Int.emod_lt_of_pos (v / 24) (show (0 : Int) < 4 by decide)
    obtain ⟨j, hj⟩ : ∃ j : Nat, v / 24 % 4 = (j : Int) := ⟨(v / 24 % 4).toNat, by omega⟩
    obtain ⟨kd, hkd⟩ := kd_at j (by omega)
    refine ⟨by show 4 ≤ sizeLine; decide, fun kl hkl => ?_⟩
    refine ⟨_, rfl, _, _, rfl, rfl, ⟨by decide, by decide⟩, _, _, rfl, rfl, (by show (0 : Int) < 4; decide), kl, _, _, _, rfl, rfl, SqL.of upd_same, at_of hj hkd, ?_⟩
    have s1 := same_new (o := .lst [.str "always", .str "busy", .str "unanswered", .str "unreachable"]) hkl
    have N1 := N.same s1
    have M1 := M.same s1
    have hfc1 := hfc.same s1
    have d0 := Int.emod_nonneg (v / 96) (show (nums.length : Int) + 3 ≠ 0 by omega)
    obtain ⟨dg, hdg⟩ : ∃ dg : Nat, v / 96 % ((nums.length : Int) + 3) = (dg : Int) := ⟨(v / 96 % ((nums.length : Int) + 3)).toNat, by omega⟩
    refine ⟨_, rfl, _, _, rfl, dgNumbers N1.wd.1, _, rfl, _, _, rfl, rfl, ⟨by decide, by decide⟩, _, rfl, _, _, rfl, dgNumbers N1.wd.1, _, _, rfl, .inl (SqL.of N1.nl.1), _, _, rfl, rfl, _, _, rfl, rfl, ?_, ?_⟩
    · show (0 : Int) < (((nums.map V.str).length : Nat) : Int) + 3
      rw [List.length_map]
      omega
    refine ⟨_, _, rfl, B.nl, nums, dg, rfl, ?_, SqL.of N1.nl.1, ?_⟩
    · show V.int (v / 96 % ((((nums.map V.str).length : Nat) : Int) + 3)) = _
      rw [List.length_map, hdg]
    refine ⟨_, rfl, _, rfl, _, _, rfl, dpKd hfc1.1 kd _, ?_⟩
    have st1 : Step Schg L H L (upd (upd H kl (.lst [.str "always", .str "busy", .str "unanswered", .str "unreachable"])) fa0 (.dK (factKvs (fc.setFw kd (pickS nums dg))))) := (Step.same s1).trans (Step.write hfc1.1 (by intro _ z; cases z) (by rw [hfc1.2]; exact .inr ⟨by decide, by decide⟩))
    have N2 := N1.setFact (f' := fc.setFw kd (pickS nums dg)) hy
    have M2 := M1.keep (S := fun n => n = 14) (Step.write hfc1.1 (by intro _ z; cases z) hfc1.2) (L' := L) (H' := upd (upd H kl (.lst [.str "always", .str "busy", .str "unanswered", .str "unreachable"])) fa0 (.dK (factKvs (fc.setFw kd (pickS nums dg))))) (fun k q1 q2 z => by omega)
    have hg2 := dgKd (a := fa0) (f := fc.setFw kd (pickS nums dg)) (H := upd (upd H kl (.lst [.str "always", .str "busy", .str "unanswered", .str "unreachable"])) fa0 (.dK (factKvs (fc.setFw kd (pickS nums dg))))) upd_same kd
    rw [setFw_get] at hg2
    refine ⟨_, rfl, ho, _, _, rfl, M2.ho.1, rfl, _, rfl, _, rfl, _, rfl, _, rfl, _, _, rfl, hg2, _, _, _, _, rfl, L, ho, Ah, ps, i, pr, kd.s, rfl, rfl, rfl, M2, hpr, by rw [hok.2]; show 4 ≤ 1000; decide, fun w H3 st3 M3 => ?_⟩
    rw [hok.2, num_put] at M3
    refine k L H3 _ _ _ (st1.trans (st3.mono fun n z => .inl z)) (N2.keep st3 fun k q1 q2 z => by have := z.2; omega) M3 ?_ (by rw [List.length_set]; exact hfl)
    rw [List.map_set]
    exact Sy.set (f' := fc.setFw kd (pickS nums dg)) hpr rfl (by rw [setFw_ar]; exact hok.1) rfl
end
end Mob

set_option Elab.async false
set_option linter.all false
set_option maxRecDepth 100000
set_option maxHeartbeats 4000000
namespace Mob
open PySem PySem.Spec PyProof.Rows L2
section
variable {P : Program} {w : World} {K : PySem.W.Frag} {mg : Str → Option Value} {base : Heap}
theorem ek_at (j : Nat) (h : j < 10) : ∃ k : Ek, ([.str "start", .str "answered", .str "alerting", .str "connect", .str "connected", .str "word", .str "disconnect", .str "lost", .str "failed", .str "step"] : List V)[j]? = some (.str k.s) := by
  match j, h with
  | 0, _ => exact ⟨.start, rfl⟩
  | 1, _ => exact ⟨.answered, rfl⟩
  | 2, _ => exact ⟨.alerting, rfl⟩
  | 3, _ => exact ⟨.connect, rfl⟩
  | 4, _ => exact ⟨.connected, rfl⟩
  | 5, _ => exact ⟨.word, rfl⟩
  | 6, _ => exact ⟨.disconnect, rfl⟩
  | 7, _ => exact ⟨.lost, rfl⟩
  | 8, _ => exact ⟨.failed, rfl⟩
  | 9, _ => exact ⟨.step, rfl⟩
def nxV : Stg → List V
  | .looking => [.str "answered", .str "answered", .str "failed"]
  | .offered => [.str "alerting", .str "alerting", .str "connect"]
  | .ringing => [.str "connect", .str "connect", .str "step"]
  | .answered => [.str "connected", .str "connected", .str "word"]
  | .active => [.str "word", .str "disconnect", .str "lost"]
theorem nx_at (s : Stg) (j : Nat) (h : j < 3) : ∃ k : Ek, (nxV s)[j]? = some (.str k.s) := by
  match j, h with
  | 0, _ => cases s <;> first | exact ⟨.answered, rfl⟩ | exact ⟨.alerting, rfl⟩ | exact ⟨.connect, rfl⟩ | exact ⟨.connected, rfl⟩ | exact ⟨.word, rfl⟩
  | 1, _ => cases s <;> first | exact ⟨.answered, rfl⟩ | exact ⟨.alerting, rfl⟩ | exact ⟨.connect, rfl⟩ | exact ⟨.connected, rfl⟩ | exact ⟨.disconnect, rfl⟩
  | 2, _ => cases s <;> first | exact ⟨.failed, rfl⟩ | exact ⟨.connect, rfl⟩ | exact ⟨.step, rfl⟩ | exact ⟨.word, rfl⟩ | exact ⟨.lost, rfl⟩
def selA : Stg → Addr → Addr → Addr → Addr → Addr → Addr
  | .looking, a, _, _, _, _ => a
  | .offered, _, a, _, _, _ => a
  | .ringing, _, _, a, _, _ => a
  | .answered, _, _, _, a, _ => a
  | .active, _, _, _, _, a => a
def nxKvs (a b c d e : Addr) : List (Key × V) := [(Sum.inr "looking", .ref a), (Sum.inr "offered", .ref b), (Sum.inr "ringing", .ref c), (Sum.inr "answered", .ref d), (Sum.inr "active", .ref e)]
theorem dgNx {H : Hp} {x a b c d e : Addr} (h : H x = some (.dK (nxKvs a b c d e))) (s : Stg) : DGet H x (.str s.s) (some (.ref (selA s a b c d e))) := by
  have q : valV (nxKvs a b c d e) (Sum.inr s.s) = some (.ref (selA s a b c d e)) := by cases s <;> rfl
  rw [← q]
  exact DGet.k (k := Sum.inr s.s) h
def spChoose : Sp := sp3 fun a b c H Q => ∃ (L : Lb) (wd : Addr) (A : WA) (nums : List Str) (fr : List (Addr × Fct)) (wc : List (Addr × CallR)) (wl : List (Addr × LineR)) (v far : Int),
  a = .ref wd ∧ b = .int v ∧ c = .int far ∧ WN L H wd A nums fr wc wl ∧ 0 < nums.length ∧ (∀ x ∈ wc, (0 ≤ x.2.caller ∧ x.2.caller < nums.length) ∧ ∃ g, x.2.called = some g ∧ 0 ≤ g ∧ g < nums.length) ∧
  ∀ l H' (ek : Ek) (p : Int), Same H H' → H' l = some (.lst [.str ek.s, .int p]) → 0 ≤ p → p < nums.length → Q (.ref l) H'
theorem ok_law_choose (T : Hd K mg) : OkD P w K mg base d_law_choose 1 P_law_choose (spChoose) := by
  obtain ⟨fd, F⟩ := T.says.def_ 63 (d := d_law_choose) rfl
  refine ⟨fd, F, F.bindsN (ps := P_law_choose) (fun _ _ _ _ _ _ us hl => match us, hl with | [_, _, _], _ => rfl), F.ok sc_law_choose (fun vs H Q E h => sp3_len h) (fun cdv A outer s H vs Q E hr h => ?_)⟩
  have hu := hu_of hr
  obtain ⟨a, b, c, rfl, L, wd, B, nums, fr, wc, wl, v, far, rfl, rfl, rfl, N, hn, hval, k⟩ := h
  refine ⟨_, PSs.nox (pss_cons (ps_set (i := 3) sc_law_choose.nd rfl (Or.inl rfl) (pe_lst (pa_cons pe_str (pa_cons pe_str (pa_cons pe_str (pa_cons pe_str (pa_cons pe_str (pa_cons pe_str (pa_cons pe_str (pa_cons pe_str (pa_cons pe_str (pa_cons pe_str pa_nil)))))))))))) (pss_cons (ps_if ((pw_and (pt_cmpR (op_eqNil hr.units) (pe_dget hu (pv 0) pe_str (fun _ _ => rfl)) (pe_lst pa_nil) (nomark _)) (pw_and1 (pt_cmpR op_gt (pe_op op_mod (pv 2) pe_int) pe_int (nomark _))))).pt (pss_one (ps_ret (pe_lst (pa_cons pe_str (pa_cons (pe_op op_mod (pe_op op_fdiv (pv 1) pe_int) (pe_callB call_len_seq (by rfl) T.fr_len PySem.boot_len (pa_cons (pe_dget hu (pv 0) pe_str (fun _ _ => rfl)) pa_nil))) pa_nil))))) pss_nil) (pss_cons (ps_if ((pw_or (pt_cmpR op_eq (pe_op op_mod (pv 1) pe_int) pe_int (nomark _)) (pw_or1 (pt_cmpR (op_eqNil hr.units) (pe_dget hu (pv 0) pe_str (fun _ _ => rfl)) (pe_lst pa_nil) (nomark _))))).pt (pss_one (ps_ret (pe_lst (pa_cons (pe_ix ix_list (pv 3) (pe_op op_mod (pe_op op_fdiv (pv 1) pe_int) pe_int) (fun _ _ => rfl)) (pa_cons (pe_op op_mod (pe_op op_fdiv (pv 1) pe_int) (pe_callB call_len_seq (by rfl) T.fr_len PySem.boot_len (pa_cons (pe_dget hu (pv 0) pe_str (fun _ _ => rfl)) pa_nil))) pa_nil))))) pss_nil) (pss_cons (ps_set (i := 4) sc_law_choose.nd rfl (Or.inl rfl) (pe_ix ix_list (pe_dget hu (pv 0) pe_str (fun _ _ => rfl)) (pe_op op_mod (pe_op op_fdiv (pv 1) pe_int) (pe_callB call_len_seq (by rfl) T.fr_len PySem.boot_len (pa_cons (pe_dget hu (pv 0) pe_str (fun _ _ => rfl)) pa_nil))) (fun _ _ => rfl))) (pss_cons (ps_set (i := 5) sc_law_choose.nd rfl (Or.inl rfl) (pe_disp (pps_cons pe_str (pe_lst (pa_cons pe_str (pa_cons pe_str (pa_cons pe_str pa_nil)))) (pps_cons pe_str (pe_lst (pa_cons pe_str (pa_cons pe_str (pa_cons pe_str pa_nil)))) (pps_cons pe_str (pe_lst (pa_cons pe_str (pa_cons pe_str (pa_cons pe_str pa_nil)))) (pps_cons pe_str (pe_lst (pa_cons pe_str (pa_cons pe_str (pa_cons pe_str pa_nil)))) (pps_cons pe_str (pe_lst (pa_cons pe_str (pa_cons pe_str (pa_cons pe_str pa_nil)))) pps_nil))))) (by rfl) (by rfl) (fun z => by cases z) (by decide))) (pss_cons (ps_set (i := 6) sc_law_choose.nd rfl (Or.inl rfl) (pe_ix ix_list (pe_dget hu (pv 5) (pe_dget hu (pv 4) pe_str (fun _ _ => rfl)) (fun _ _ => rfl)) (pe_op op_mod (pe_op op_fdiv (pv 1) pe_int) pe_int) (fun _ _ => rfl))) (pss_cons (ps_set (i := 7) sc_law_choose.nd rfl (Or.inl rfl) (pe_dget hu (pv 4) pe_str (fun _ _ => rfl))) (pss_cons (ps_if ((pw_or (pt_cmpR op_eq (pv 6) pe_str (nomark _)) (pw_or1 ((pw_and (pt_cmpR op_eq (pv 6) pe_str (nomark _)) (pw_and1 (pt_cmpR op_eq (pe_op op_mod (pe_op op_fdiv (pv 1) pe_int) pe_int) pe_int (nomark _))))).pt))).pt (pss_one (ps_set (i := 7) sc_law_choose.nd rfl (Or.inl rfl) (pe_dget hu (pv 4) pe_str (fun _ _ => rfl)))) pss_nil) (pss_cons (ps_if (pt_cmpR op_eq (pe_op op_mod (pe_op op_fdiv (pv 1) pe_int) pe_int) pe_int (nomark _)) (pss_one (ps_ret (pe_lst (pa_cons pe_str (pa_cons (pe_op op_mod (pe_op op_fdiv (pv 1) pe_int) (pe_callB call_len_seq (by rfl) T.fr_len PySem.boot_len (pa_cons (pe_dget hu (pv 0) pe_str (fun _ _ => rfl)) pa_nil))) pa_nil))))) pss_nil) (pss_one (ps_ret (pe_lst (pa_cons (pv 6) (pa_cons (pv 7) pa_nil)))))))))))))), ?_⟩
  have hn0 : (0 : Int) < (nums.length : Int) := by omega
  refine ⟨by show 10 ≤ sizeLine; decide, fun kl hkl => ?_⟩
  have s1 := same_new (o := .lst [.str "start", .str "answered", .str "alerting", .str "connect", .str "connected", .str "word", .str "disconnect", .str "lost", .str "failed", .str "step"]) hkl
  have N1 := N.same s1
  refine ⟨_, rfl, _, _, rfl, dgCalls N1.wd.1, Nat.zero_le _, fun e1 he1 => ⟨B.cl, e1, _, rfl, rfl, upd_old N1.cl.1 he1, upd_same, _, rfl, ?_⟩⟩
  have s2 := s1.trans (same_new (o := .lst []) he1)
  have N2 := N.same s2
  have hk2 := same_new (o := .lst []) he1 _ _ (upd_same (H := H) (a := kl) (o := .lst [.str "start", .str "answered", .str "alerting", .str "connect", .str "connected", .str "word", .str "disconnect", .str "lost", .str "failed", .str "step"]))
  have j0 := Int.emod_nonneg (v / 4) (show (10 : Int) ≠ 0 by decide)
  have j1 := Int.emod_lt_of_pos (v / 4) (show (0 : Int) < 10 by decide)
  obtain ⟨j, hj⟩ : ∃ j : Nat, v / 4 % 10 = (j : Int) := ⟨(v / 4 % 10).toNat, by omega⟩
  obtain ⟨ek1, hek⟩ := ek_at j (by omega)
  cases hwc : (wc.map fun x => V.ref x.1).isEmpty with
  | true =>
    refine iteT ⟨_, rfl, _, _, rfl, rfl, (by show (0 : Int) < 3; decide), _, _, rfl, rfl, _, rfl, ?_⟩
    refine ite2 (fun _ => ?_) (fun _ => ?_)
    · skip
      -- N2: net at the heap, s2: same so far, 40: divisor, .start: kind, : how it evaluates
      have p0 := Int.emod_nonneg (v / 40) (show (nums.length : Int) ≠ 0 by omega)
      have p1 := Int.emod_lt_of_pos (v / 40) hn0
      refine ⟨ _, rfl, _, _, rfl, rfl, ⟨by decide, by decide⟩, _, rfl, _, _, rfl, dgNumbers (N2).wd.1, _, _, rfl, .inl (SqL.of (N2).nl.1), _, _, rfl, rfl, ?_⟩
      rw [List.length_map]
      refine ⟨hn0, by show 2 ≤ sizeLine; decide, fun l hl => ?_⟩
      exact k l _ .start _ ((s2).trans (same_new hl)) upd_same p0 p1
    · refine ⟨_, rfl, _, _, rfl, rfl, (by show (0 : Int) < 4; decide), rfl, _, rfl, ?_⟩
      refine ite2 (fun _ => iteT ?_) (fun _ => ?_)
      · skip
        -- N2: net at the heap, s2: same so far, 40: divisor, ek1: kind, _, rfl, _, rfl, _, _, rfl, rfl, ⟨by decide, by decide⟩, _, _, rfl, rfl, (by show (0 : Int) < 10; decide), kl, _, _, _, rfl, rfl, SqL.of hk2, at_of hj hek,: how it evaluates
        have p0 := Int.emod_nonneg (v / 40) (show (nums.length : Int) ≠ 0 by omega)
        have p1 := Int.emod_lt_of_pos (v / 40) hn0
        refine ⟨_, rfl, _, rfl, _, _, rfl, rfl, ⟨by decide, by decide⟩, _, _, rfl, rfl, (by show (0 : Int) < 10; decide), kl, _, _, _, rfl, rfl, SqL.of hk2, at_of hj hek, _, rfl, _, _, rfl, rfl, ⟨by decide, by decide⟩, _, rfl, _, _, rfl, dgNumbers (N2).wd.1, _, _, rfl, .inl (SqL.of (N2).nl.1), _, _, rfl, rfl, ?_⟩
        rw [List.length_map]
        refine ⟨hn0, by show 2 ≤ sizeLine; decide, fun l hl => ?_⟩
        exact k l _ ek1 _ ((s2).trans (same_new hl)) upd_same p0 p1
      · refine ⟨_, rfl, _, _, rfl, dgCalls N2.wd.1, Nat.zero_le _, fun e2 he2 => ⟨B.cl, e2, _, rfl, rfl, upd_old N2.cl.1 he2, upd_same, _, rfl, ?_⟩⟩
        have s3 := s2.trans (same_new (o := .lst []) he2)
        have N3 := N.same s3
        have hk3 := same_new (o := .lst []) he2 _ _ hk2
        rw [hwc]
        refine iteT ?_
        -- N3: net at the heap, s3: same so far, 40: divisor, ek1: kind, _, rfl, _, rfl, _, _, rfl, rfl, ⟨by decide, by decide⟩, _, _, rfl, rfl, (by show (0 : Int) < 10; decide), kl, _, _, _, rfl, rfl, SqL.of hk3, at_of hj hek,: how it evaluates
        have p0 := Int.emod_nonneg (v / 40) (show (nums.length : Int) ≠ 0 by omega)
        have p1 := Int.emod_lt_of_pos (v / 40) hn0
        refine ⟨_, rfl, _, rfl, _, _, rfl, rfl, ⟨by decide, by decide⟩, _, _, rfl, rfl, (by show (0 : Int) < 10; decide), kl, _, _, _, rfl, rfl, SqL.of hk3, at_of hj hek, _, rfl, _, _, rfl, rfl, ⟨by decide, by decide⟩, _, rfl, _, _, rfl, dgNumbers (N3).wd.1, _, _, rfl, .inl (SqL.of (N3).nl.1), _, _, rfl, rfl, ?_⟩
        rw [List.length_map]
        refine ⟨hn0, by show 2 ≤ sizeLine; decide, fun l hl => ?_⟩
        exact k l _ ek1 _ ((s3).trans (same_new hl)) upd_same p0 p1
  | false =>
    refine iteF (iteF ?_)
    refine ⟨_, rfl, _, _, rfl, rfl, (by show (0 : Int) < 4; decide), rfl, _, rfl, ?_⟩
    refine ite2 (fun _ => iteT ?_) (fun _ => ?_)
    · skip
      -- N2: net at the heap, s2: same so far, 40: divisor, ek1: kind, _, rfl, _, rfl, _, _, rfl, rfl, ⟨by decide, by decide⟩, _, _, rfl, rfl, (by show (0 : Int) < 10; decide), kl, _, _, _, rfl, rfl, SqL.of hk2, at_of hj hek,: how it evaluates
      have p0 := Int.emod_nonneg (v / 40) (show (nums.length : Int) ≠ 0 by omega)
      have p1 := Int.emod_lt_of_pos (v / 40) hn0
      refine ⟨_, rfl, _, rfl, _, _, rfl, rfl, ⟨by decide, by decide⟩, _, _, rfl, rfl, (by show (0 : Int) < 10; decide), kl, _, _, _, rfl, rfl, SqL.of hk2, at_of hj hek, _, rfl, _, _, rfl, rfl, ⟨by decide, by decide⟩, _, rfl, _, _, rfl, dgNumbers (N2).wd.1, _, _, rfl, .inl (SqL.of (N2).nl.1), _, _, rfl, rfl, ?_⟩
      rw [List.length_map]
      refine ⟨hn0, by show 2 ≤ sizeLine; decide, fun l hl => ?_⟩
      exact k l _ ek1 _ ((s2).trans (same_new hl)) upd_same p0 p1
    · refine ⟨_, rfl, _, _, rfl, dgCalls N2.wd.1, Nat.zero_le _, fun e2 he2 => ⟨B.cl, e2, _, rfl, rfl, upd_old N2.cl.1 he2, upd_same, _, rfl, ?_⟩⟩
      have s3 := s2.trans (same_new (o := .lst []) he2)
      have N3 := N.same s3
      rw [hwc]
      have hm : 0 < wc.length := by
        cases wc with
        | nil => cases hwc
        | cons a l => exact Nat.succ_pos _
      have c0 := Int.emod_nonneg (v / 4) (show (wc.length : Int) ≠ 0 by omega)
      have c1 := Int.emod_lt_of_pos (v / 4) (show (0 : Int) < (wc.length : Int) by omega)
      obtain ⟨i, hi⟩ : ∃ i : Nat, v / 4 % (wc.length : Int) = (i : Int) := ⟨(v / 4 % (wc.length : Int)).toNat, by omega⟩
      have hil : i < wc.length := by omega
      obtain ⟨y, hy⟩ : ∃ y, wc[i]? = some y := ⟨wc[i], List.getElem?_eq_getElem hil⟩
      obtain ⟨cA, r⟩ := y
      have hmem := List.mem_of_getElem? hy
      have hc3 := N3.calls _ hmem
      obtain ⟨hcv, g, hg, hgv⟩ := hval _ hmem
      have hat : atI (wc.map fun x => V.ref x.1) (v / 4 % (wc.length : Int)) = some (.ref cA) := at_of hi (by rw [List.getElem?_map, hy]; rfl)
      refine iteF ⟨_, rfl, _, _, rfl, dgCalls N3.wd.1, _, rfl, _, _, rfl, rfl, ⟨by decide, by decide⟩, _, rfl, _, _, rfl, dgCalls N3.wd.1, _, _, rfl, .inl (SqL.of N3.cl.1), _, _, rfl, rfl, ?_⟩
      rw [List.length_map]
      refine ⟨by omega, B.cl, _, _, _, rfl, rfl, SqL.of N3.cl.1, hat, ?_⟩
      intro d hd
      refine ⟨by show 3 ≤ sizeLine; decide, fun a1 h1 => ⟨by show 3 ≤ sizeLine; decide, fun a2 h2 => ⟨by show 3 ≤ sizeLine; decide, fun a3 h3 => ⟨by show 3 ≤ sizeLine; decide, fun a4 h4 => ⟨by show 3 ≤ sizeLine; decide, fun a5 h5 => ?_⟩⟩⟩⟩⟩
      have hd5 := upd_old (x := .lst (nxV .active)) (upd_old (x := .lst (nxV .answered)) (upd_old (x := .lst (nxV .ringing)) (upd_old (x := .lst (nxV .offered)) (upd_old (x := .lst (nxV .looking)) (upd_same (H := upd (upd (upd H kl (.lst [.str "start", .str "answered", .str "alerting", .str "connect", .str "connected", .str "word", .str "disconnect", .str "lost", .str "failed", .str "step"])) e1 (.lst [])) e2 (.lst [])) (a := d) (o := .dK [])) h1) h2) h3) h4) h5
      have sx : Same (upd (upd (upd H kl (.lst [.str "start", .str "answered", .str "alerting", .str "connect", .str "connected", .str "word", .str "disconnect", .str "lost", .str "failed", .str "step"])) e1 (.lst [])) e2 (.lst [])) (upd (upd (upd (upd (upd (upd (upd (upd (upd H kl (.lst [.str "start", .str "answered", .str "alerting", .str "connect", .str "connected", .str "word", .str "disconnect", .str "lost", .str "failed", .str "step"])) e1 (.lst [])) e2 (.lst [])) d (.dK [])) a1 (.lst (nxV .looking))) a2 (.lst (nxV .offered))) a3 (.lst (nxV .ringing))) a4 (.lst (nxV .answered))) a5 (.lst (nxV .active))) := ((((same_new (o := .dK []) hd).trans (same_new (o := .lst (nxV .looking)) h1)).trans (same_new (o := .lst (nxV .offered)) h2)).trans (same_new (o := .lst (nxV .ringing)) h3)).trans ((same_new (o := .lst (nxV .answered)) h4).trans (same_new (o := .lst (nxV .active)) h5))
      have l1 := upd_old (x := .lst (nxV .active)) (upd_old (x := .lst (nxV .answered)) (upd_old (x := .lst (nxV .ringing)) (upd_old (x := .lst (nxV .offered)) (upd_same (H := upd (upd (upd (upd H kl (.lst [.str "start", .str "answered", .str "alerting", .str "connect", .str "connected", .str "word", .str "disconnect", .str "lost", .str "failed", .str "step"])) e1 (.lst [])) e2 (.lst [])) d (.dK [])) (a := a1) (o := .lst (nxV .looking))) h2) h3) h4) h5
      have l2 := upd_old (x := .lst (nxV .active)) (upd_old (x := .lst (nxV .answered)) (upd_old (x := .lst (nxV .ringing)) (upd_same (H := upd (upd (upd (upd (upd H kl (.lst [.str "start", .str "answered", .str "alerting", .str "connect", .str "connected", .str "word", .str "disconnect", .str "lost", .str "failed", .str "step"])) e1 (.lst [])) e2 (.lst [])) d (.dK [])) a1 (.lst (nxV .looking))) (a := a2) (o := .lst (nxV .offered))) h3) h4) h5
      have l3 := upd_old (x := .lst (nxV .active)) (upd_old (x := .lst (nxV .answered)) (upd_same (H := upd (upd (upd (upd (upd (upd H kl (.lst [.str "start", .str "answered", .str "alerting", .str "connect", .str "connected", .str "word", .str "disconnect", .str "lost", .str "failed", .str "step"])) e1 (.lst [])) e2 (.lst [])) d (.dK [])) a1 (.lst (nxV .looking))) a2 (.lst (nxV .offered))) (a := a3) (o := .lst (nxV .ringing))) h4) h5
      have l4 := upd_old (x := .lst (nxV .active)) (upd_same (H := upd (upd (upd (upd (upd (upd (upd H kl (.lst [.str "start", .str "answered", .str "alerting", .str "connect", .str "connected", .str "word", .str "disconnect", .str "lost", .str "failed", .str "step"])) e1 (.lst [])) e2 (.lst [])) d (.dK [])) a1 (.lst (nxV .looking))) a2 (.lst (nxV .offered))) a3 (.lst (nxV .ringing))) (a := a4) (o := .lst (nxV .answered))) h5
      generalize hH5 : upd (upd (upd (upd (upd (upd (upd (upd (upd H kl (.lst [.str "start", .str "answered", .str "alerting", .str "connect", .str "connected", .str "word", .str "disconnect", .str "lost", .str "failed", .str "step"])) e1 (.lst [])) e2 (.lst [])) d (.dK [])) a1 (.lst (nxV .looking))) a2 (.lst (nxV .offered))) a3 (.lst (nxV .ringing))) a4 (.lst (nxV .answered))) a5 (.lst (nxV .active)) = H5 at hd5 sx l1 l2 l3 l4
      have l5 : H5 a5 = some (.lst (nxV .active)) := by rw [← hH5]; exact upd_same
      have lsel : ∀ s : Stg, H5 (selA s a1 a2 a3 a4 a5) = some (.lst (nxV s)) := fun s => by
        cases s
        · exact l1
        · exact l2
        · exact l3
        · exact l4
        · exact l5
      have goalH : ∀ (G : Hp → Prop), G H5 → G (upd (upd (upd (upd (upd (upd (upd (upd (upd H kl (.lst [.str "start", .str "answered", .str "alerting", .str "connect", .str "connected", .str "word", .str "disconnect", .str "lost", .str "failed", .str "step"])) e1 (.lst [])) e2 (.lst [])) d (.dK [])) a1 (.lst (nxV .looking))) a2 (.lst (nxV .offered))) a3 (.lst (nxV .ringing))) a4 (.lst (nxV .answered))) a5 (.lst (nxV .active))) := fun G g => by rw [hH5]; exact g
      refine ⟨by rw [← hH5] at hd5; exact hd5, nxKvs a1 a2 a3 a4 a5, rfl, by show 5 ≤ 15; decide, ?_⟩
      refine goalH (fun HH => tSeq _ _ _ _ (upd HH d (.dK (mergeK [] (nxKvs a1 a2 a3 a4 a5))))) ?_
      have hd0 : H d = none := upd_free (upd_free (upd_free hd))
      have s6 : Same H (upd H5 d (.dK (mergeK [] (nxKvs a1 a2 a3 a4 a5)))) := same_mut (s3.trans sx) hd0
      have N6 := N.same s6
      have hc6 := (N6.calls _ hmem).1
      have hd6 : (upd H5 d (.dK (mergeK [] (nxKvs a1 a2 a3 a4 a5)))) d = some (.dK (nxKvs a1 a2 a3 a4 a5)) := upd_same
      have lsel6 : ∀ s : Stg, (upd H5 d (.dK (mergeK [] (nxKvs a1 a2 a3 a4 a5)))) (selA s a1 a2 a3 a4 a5) = some (.lst (nxV s)) := fun s => upd_off (lsel s) (ne_of (lsel s) hd5 (by intro z; cases z))
      generalize upd H5 d (.dK (mergeK [] (nxKvs a1 a2 a3 a4 a5))) = H6 at s6 N6 hc6 hd6 lsel6 ⊢
      have w0 := Int.emod_nonneg (v / 32) (show (3 : Int) ≠ 0 by decide)
      have w1 := Int.emod_lt_of_pos (v / 32) (show (0 : Int) < 3 by decide)
      obtain ⟨j3, hj3⟩ : ∃ j3 : Nat, v / 32 % 3 = (j3 : Int) := ⟨(v / 32 % 3).toNat, by omega⟩
      obtain ⟨ek, hek3⟩ := nx_at r.st j3 (by omega)
      have hdg : DGet H6 cA (.str "called") (some (.int g)) := by
        have := dgCalled hc6
        rw [hg] at this
        exact this
      refine ⟨_, rfl, _, rfl, _, _, rfl, dgState hc6, _, _, rfl, dgNx hd6 r.st, _, rfl, _, _, rfl, rfl, ⟨by decide, by decide⟩, _, _, rfl, rfl, (by show (0 : Int) < 3; decide), _, _, _, _, rfl, rfl, SqL.of (lsel6 r.st), at_of hj3 hek3, ?_⟩
      refine ⟨_, rfl, _, _, rfl, hdg, ?_⟩
      refine ⟨_, rfl, rfl, _, rfl, ?_⟩
      refine ite2 (fun _ => iteT ?_) (fun _ => ?_)
      · refine ⟨_, rfl, _, _, rfl, dgCaller hc6, ?_⟩
        -- N6: net, s6: same, r.caller: person's value, hcv: its bounds
        refine ⟨_, rfl, _, _, rfl, rfl, ⟨by decide, by decide⟩, _, _, rfl, rfl, (by show (0 : Int) < 6; decide), rfl, _, rfl, ?_⟩
        refine ite2 (fun _ => ?_) (fun _ => ?_)
        · skip
          -- N6: net at the heap, s6: same so far, 1152: divisor, .start: kind, : how it evaluates
          have p0 := Int.emod_nonneg (v / 1152) (show (nums.length : Int) ≠ 0 by omega)
          have p1 := Int.emod_lt_of_pos (v / 1152) hn0
          refine ⟨ _, rfl, _, _, rfl, rfl, ⟨by decide, by decide⟩, _, rfl, _, _, rfl, dgNumbers (N6).wd.1, _, _, rfl, .inl (SqL.of (N6).nl.1), _, _, rfl, rfl, ?_⟩
          rw [List.length_map]
          refine ⟨hn0, by show 2 ≤ sizeLine; decide, fun l hl => ?_⟩
          exact k l _ .start _ ((s6).trans (same_new hl)) upd_same p0 p1
        · refine ⟨_, rfl, _, rfl, by show 2 ≤ sizeLine; decide, fun l hl => ?_⟩
          exact k l _ ek r.caller ((s6).trans (same_new hl)) upd_same (hcv).1 (hcv).2
      · refine ⟨_, rfl, rfl, _, rfl, ?_⟩
        refine ite2 (fun _ => ?_) (fun _ => iteF ?_)
        · refine ⟨_, rfl, _, _, rfl, rfl, ⟨by decide, by decide⟩, _, _, rfl, rfl, (by show (0 : Int) < 2; decide), rfl, _, rfl, ?_⟩
          refine ite2 (fun _ => ?_) (fun _ => ?_)
          · refine ⟨_, rfl, _, _, rfl, dgCaller hc6, ?_⟩
            -- N6: net, s6: same, r.caller: person's value, hcv: its bounds
            refine ⟨_, rfl, _, _, rfl, rfl, ⟨by decide, by decide⟩, _, _, rfl, rfl, (by show (0 : Int) < 6; decide), rfl, _, rfl, ?_⟩
            refine ite2 (fun _ => ?_) (fun _ => ?_)
            · skip
              -- N6: net at the heap, s6: same so far, 1152: divisor, .start: kind, : how it evaluates
              have p0 := Int.emod_nonneg (v / 1152) (show (nums.length : Int) ≠ 0 by omega)
              have p1 := Int.emod_lt_of_pos (v / 1152) hn0
              refine ⟨ _, rfl, _, _, rfl, rfl, ⟨by decide, by decide⟩, _, rfl, _, _, rfl, dgNumbers (N6).wd.1, _, _, rfl, .inl (SqL.of (N6).nl.1), _, _, rfl, rfl, ?_⟩
              rw [List.length_map]
              refine ⟨hn0, by show 2 ≤ sizeLine; decide, fun l hl => ?_⟩
              exact k l _ .start _ ((s6).trans (same_new hl)) upd_same p0 p1
            · refine ⟨_, rfl, _, rfl, by show 2 ≤ sizeLine; decide, fun l hl => ?_⟩
              exact k l _ ek r.caller ((s6).trans (same_new hl)) upd_same (hcv).1 (hcv).2
          · skip
            -- N6: net, s6: same, g: person's value, hgv: its bounds
            refine ⟨_, rfl, _, _, rfl, rfl, ⟨by decide, by decide⟩, _, _, rfl, rfl, (by show (0 : Int) < 6; decide), rfl, _, rfl, ?_⟩
            refine ite2 (fun _ => ?_) (fun _ => ?_)
            · skip
              -- N6: net at the heap, s6: same so far, 1152: divisor, .start: kind, : how it evaluates
              have p0 := Int.emod_nonneg (v / 1152) (show (nums.length : Int) ≠ 0 by omega)
              have p1 := Int.emod_lt_of_pos (v / 1152) hn0
              refine ⟨ _, rfl, _, _, rfl, rfl, ⟨by decide, by decide⟩, _, rfl, _, _, rfl, dgNumbers (N6).wd.1, _, _, rfl, .inl (SqL.of (N6).nl.1), _, _, rfl, rfl, ?_⟩
              rw [List.length_map]
              refine ⟨hn0, by show 2 ≤ sizeLine; decide, fun l hl => ?_⟩
              exact k l _ .start _ ((s6).trans (same_new hl)) upd_same p0 p1
            · refine ⟨_, rfl, _, rfl, by show 2 ≤ sizeLine; decide, fun l hl => ?_⟩
              exact k l _ ek g ((s6).trans (same_new hl)) upd_same (hgv).1 (hgv).2
        · skip
          -- N6: net, s6: same, g: person's value, hgv: its bounds
          refine ⟨_, rfl, _, _, rfl, rfl, ⟨by decide, by decide⟩, _, _, rfl, rfl, (by show (0 : Int) < 6; decide), rfl, _, rfl, ?_⟩
          refine ite2 (fun _ => ?_) (fun _ => ?_)
          · skip
            -- N6: net at the heap, s6: same so far, 1152: divisor, .start: kind, : how it evaluates
            have p0 := Int.emod_nonneg (v / 1152) (show (nums.length : Int) ≠ 0 by omega)
            have p1 := Int.emod_lt_of_pos (v / 1152) hn0
            refine ⟨ _, rfl, _, _, rfl, rfl, ⟨by decide, by decide⟩, _, rfl, _, _, rfl, dgNumbers (N6).wd.1, _, _, rfl, .inl (SqL.of (N6).nl.1), _, _, rfl, rfl, ?_⟩
            rw [List.length_map]
            refine ⟨hn0, by show 2 ≤ sizeLine; decide, fun l hl => ?_⟩
            exact k l _ .start _ ((s6).trans (same_new hl)) upd_same p0 p1
          · refine ⟨_, rfl, _, rfl, by show 2 ≤ sizeLine; decide, fun l hl => ?_⟩
            exact k l _ ek g ((s6).trans (same_new hl)) upd_same (hgv).1 (hgv).2
end
end Mob

set_option Elab.async false
set_option linter.all false
set_option maxRecDepth 100000
set_option maxHeartbeats 4000000
namespace Mob
open PySem PySem.Spec PyProof.Rows L2
section
variable {P : Program} {w : World} {K : PySem.W.Frag} {mg : Str → Option Value} {base : Heap}
/-! ### the law's due and actions -/
def mEvent (E : Env0) (N : Net) (k : Ek) (p v : Int) (linked : List Int) (t : Int) : List PyData × Net := match k with
  | .start => mStart E N p ((pickS E.nums (v % ((E.nums.length : Int) + 1)).toNat).getD Str.empty) linked
  | .answered => mAnswered E N p t
  | .alerting => mAlerting N p
  | .connect => mConnect N p
  | .connected => mConnected N p t
  | .word => mWord N p (wordD v)
  | .disconnect => (relD p :: (mLeave N p (v % 128) t).1, (mLeave N p (v % 128) t).2)
  | .lost => mLeave N p 27 t
  | .failed => mFailed E N p linked
  | .step => mStep E N linked t
theorem inv_event {n : Nat} {E : Env0} {N : Net} (hn : E.nums.length = n) (I : Inv0 n N) (k : Ek) {p : Int} (p0 : 0 ≤ p) (p1 : p < n) (v : Int) (linked : List Int) (t : Int) :
    Inv0 n (mEvent E N k p v linked t).2 ∧ (mEvent E N k p v linked t).2.cs.length ≤ N.cs.length + 1 ∧ (mEvent E N k p v linked t).2.ls.length ≤ N.ls.length + 1 := by
  cases k with
  | start =>
    obtain ⟨a, b, c⟩ := inv_start hn I p0 p1 ((pickS E.nums (v % ((E.nums.length : Int) + 1)).toNat).getD Str.empty) linked
    exact ⟨a, b, by show (mStart _ _ _ _ _).2.ls.length ≤ _; rw [c]; exact Nat.le_succ _⟩
  | answered =>
    obtain ⟨a, b, c⟩ := inv_answered (E := E) I p t
    exact ⟨a, Nat.le_succ_of_le b, by show (mAnswered _ _ _ _).2.ls.length ≤ _; rw [c]; exact Nat.le_succ _⟩
  | alerting =>
    obtain ⟨a, b, c⟩ := inv_alerting I p
    exact ⟨a, Nat.le_succ_of_le b, by show (mAlerting _ _).2.ls.length ≤ _; rw [c]; exact Nat.le_succ _⟩
  | connect =>
    obtain ⟨a, b, c⟩ := inv_connect I p
    exact ⟨a, Nat.le_succ_of_le b, by show (mConnect _ _).2.ls.length ≤ _; rw [c]; exact Nat.le_succ _⟩
  | connected =>
    obtain ⟨a, b, c⟩ := inv_connected I p t
    exact ⟨a, Nat.le_succ_of_le b, c⟩
  | word =>
    have e : (mWord N p (wordD v)).2 = N := by
      unfold mWord
      split
      · rfl
      · split <;> rfl
    show Inv0 n (mWord N p (wordD v)).2 ∧ (mWord N p (wordD v)).2.cs.length ≤ _ ∧ (mWord N p (wordD v)).2.ls.length ≤ _
    rw [e]
    exact ⟨I, Nat.le_succ _, Nat.le_succ _⟩
  | disconnect =>
    obtain ⟨a, b, c⟩ := inv_leave I p (v % 128) t
    exact ⟨a, Nat.le_succ_of_le b, by show (mLeave _ _ _ _).2.ls.length ≤ _; rw [c]; exact Nat.le_succ _⟩
  | lost =>
    obtain ⟨a, b, c⟩ := inv_leave I p 27 t
    exact ⟨a, Nat.le_succ_of_le b, by show (mLeave _ _ _ _).2.ls.length ≤ _; rw [c]; exact Nat.le_succ _⟩
  | failed =>
    obtain ⟨a, b, c⟩ := inv_failed hn I p linked
    exact ⟨a, Nat.le_succ_of_le b, by show (mFailed _ _ _ _).2.ls.length ≤ _; rw [c]; exact Nat.le_succ _⟩
  | step =>
    obtain ⟨a, b, c⟩ := inv_step (E := E) hn I linked t
    exact ⟨a, Nat.le_succ_of_le b, by show (mStep _ _ _ _).2.ls.length ≤ _; rw [c]; exact Nat.le_succ _⟩
theorem pick_some (nums : List Str) (d : Nat) (h : d ≤ nums.length) : ∃ x, pickS nums d = some x := by
  unfold pickS
  split
  · rename_i q
    exact ⟨nums[d], List.getElem?_eq_getElem q⟩
  · rw [if_pos (by omega)]
    exact ⟨_, rfl⟩
/-- what follows from the invariant, read at the heap's lists -/
theorem inv_cd {β : Type} {n : Nat} {ac : List (Addr × CallR)} {ls : List LineR} (I : Inv0 n ⟨ac.map (·.2), ls⟩) : ∀ x ∈ ac, ∃ g, x.2.called = some g := fun x hx => by
  obtain ⟨g, hg, _⟩ := I.called x.2 (List.mem_map.mpr ⟨x, hx, rfl⟩)
  exact ⟨g, hg⟩
theorem inv_cv {n : Nat} {ac : List (Addr × CallR)} {ls : List LineR} (I : Inv0 n ⟨ac.map (·.2), ls⟩) : ∀ x ∈ ac, 0 ≤ x.2.caller ∧ x.2.caller < n := fun x hx => I.caller x.2 (List.mem_map.mpr ⟨x, hx, rfl⟩)
theorem inv_ln {n : Nat} {ac : List (Addr × CallR)} {al : List (Addr × LineR)} (I : Inv0 n ⟨ac.map (·.2), al.map (·.2)⟩) : ∀ x ∈ ac, ∀ i, x.2.line = some i → ∃ y, al[i]? = some y ∧ y.2.fin = none := fun x hx i hi => by
  obtain ⟨_, l, hl, hf⟩ := I.line x.2 (List.mem_map.mpr ⟨x, hx, rfl⟩) i hi
  obtain ⟨y, hy, rfl⟩ := map_at (show (al.map (·.2))[i]? = some l from hl)
  exact ⟨y, hy, hf⟩
def spDue : Sp := sp6 fun a b c d e g H Q => ∃ (L : Lb) (wd : Addr) (A : WA) (nums : List Str) (fr : List (Addr × Fct)) (wc : List (Addr × CallR)) (wl : List (Addr × LineR)) (ek : Ek) (p v : Int) (lk : Addr) (linked : List Int) (t : Int),
  a = .ref wd ∧ b = .str ek.s ∧ c = .int p ∧ d = .int v ∧ e = .ref lk ∧ g = .int t ∧ WN L H wd A nums fr wc wl ∧ fr.length = nums.length ∧ Inv0 nums.length ⟨wc.map (·.2), wl.map (·.2)⟩ ∧ wc.length ≤ 1000 ∧ wl.length ≤ 1000 ∧ At L H 0 lk (.lst (linked.map V.int)) ∧ linked.length ≤ 1000 ∧
  WPost L H wd nums fr (mEvent ⟨nums, fr.map (·.2)⟩ ⟨wc.map (·.2), wl.map (·.2)⟩ ek p v linked t) Q
theorem ok_law_due (T : Hd K mg) : OkD P w K mg base d_law_due 4 P_law_due (spDue) := by
  obtain ⟨fd, F⟩ := T.says.def_ 64 (d := d_law_due) rfl
  obtain ⟨_, F_law_pick, b_law_pick, G_law_pick⟩ := ok_law_pick (P := P) (w := w) (base := base) T
  obtain ⟨_, F_law_start, b_law_start, G_law_start⟩ := ok_law_start (P := P) (w := w) (base := base) T
  obtain ⟨_, F_law_connected, b_law_connected, G_law_connected⟩ := ok_law_connected (P := P) (w := w) (base := base) T
  obtain ⟨_, F_law_word, b_law_word, G_law_word⟩ := ok_law_word (P := P) (w := w) (base := base) T
  obtain ⟨_, F_law_word_of, b_law_word_of, G_law_word_of⟩ := ok_law_word_of (P := P) (w := w) (base := base) T
  obtain ⟨_, F_law_leave, b_law_leave, G_law_leave⟩ := ok_law_leave (P := P) (w := w) (base := base) T
  obtain ⟨_, F_law_failed, b_law_failed, G_law_failed⟩ := ok_law_failed (P := P) (w := w) (base := base) T
  obtain ⟨_, F_law_step, b_law_step, G_law_step⟩ := ok_law_step (P := P) (w := w) (base := base) T
  obtain ⟨_, F_law_called, b_law_called, G_law_called⟩ := ok_law_called (P := P) (w := w) (base := base) T
  refine ⟨fd, F, F.bindsN (ps := P_law_due) (fun _ _ _ _ _ _ us hl => match us, hl with | [_, _, _, _, _, _], _ => rfl), F.ok sc_law_due (fun vs H Q E h => sp6_len h) (fun cdv A outer s H vs Q E hr h => ?_)⟩
  have hu := hu_of hr
  obtain ⟨a, b, c, d, e, g, rfl, L, wd, B, nums, fr, wc, wl, ek, p, v, lk, linked, tk, rfl, rfl, rfl, rfl, rfl, rfl, N, hfl, I, hlen, hwl, hlk, hll, k⟩ := h
  refine ⟨_, PSs.nox (pss_cons (ps_if (pt_cmpR op_eq (pv 1) pe_str (nomark _)) (pss_cons (ps_set (i := 6) sc_law_due.nd rfl (Or.inl rfl) (pe_call G_law_pick (hr.mono (by decide)) (by rfl) T.gl_law_pick F_law_pick.kp b_law_pick .nil pass0 (pa_cons (pe_dget hu (pv 0) pe_str (fun _ _ => rfl)) (pa_cons (pe_op op_mod (pv 3) (pe_op op_add (pe_callB call_len_seq (by rfl) T.fr_len PySem.boot_len (pa_cons (pe_dget hu (pv 0) pe_str (fun _ _ => rfl)) pa_nil)) pe_int)) pa_nil)))) (pss_one (ps_ret (pe_call G_law_start (hr.mono (by decide)) (by rfl) T.gl_law_start F_law_start.kp b_law_start .nil pass0 (pa_cons (pv 0) (pa_cons (pv 2) (pa_cons (pv 6) (pa_cons (pv 4) pa_nil)))))))) pss_nil) (pss_cons (ps_if (pt_cmpR op_eq (pv 1) pe_str (nomark _)) (pss_one (ps_ret (pe_call G_law_connected (hr.mono (by decide)) (by rfl) T.gl_law_connected F_law_connected.kp b_law_connected .nil pass0 (pa_cons (pv 0) (pa_cons (pv 2) (pa_cons (pv 5) pa_nil)))))) pss_nil) (pss_cons (ps_if (pt_cmpR op_eq (pv 1) pe_str (nomark _)) (pss_one (ps_ret (pe_call G_law_word (hr.mono (by decide)) (by rfl) T.gl_law_word F_law_word.kp b_law_word .nil pass0 (pa_cons (pv 0) (pa_cons (pv 2) (pa_cons (pe_call G_law_word_of (hr.mono (by decide)) (by rfl) T.gl_law_word_of F_law_word_of.kp b_law_word_of .nil pass0 (pa_cons (pv 3) pa_nil)) pa_nil)))))) pss_nil) (pss_cons (ps_if (pt_cmpR op_eq (pv 1) pe_str (nomark _)) (pss_one (ps_ret (pe_op op_cat (pe_lst (pa_cons (pe_tup (pa_cons pe_str (pa_cons (pv 2) pa_nil))) pa_nil)) (pe_call G_law_leave (hr.mono (by decide)) (by rfl) T.gl_law_leave F_law_leave.kp b_law_leave .nil pass0 (pa_cons (pv 0) (pa_cons (pv 2) (pa_cons (pe_op op_mod (pv 3) pe_int) (pa_cons (pv 5) pa_nil)))))))) pss_nil) (pss_cons (ps_if (pt_cmpR op_eq (pv 1) pe_str (nomark _)) (pss_one (ps_ret (pe_call G_law_leave (hr.mono (by decide)) (by rfl) T.gl_law_leave F_law_leave.kp b_law_leave .nil pass0 (pa_cons (pv 0) (pa_cons (pv 2) (pa_cons pe_int (pa_cons (pv 5) pa_nil))))))) pss_nil) (pss_cons (ps_if (pt_cmpR op_eq (pv 1) pe_str (nomark _)) (pss_one (ps_ret (pe_call G_law_failed (hr.mono (by decide)) (by rfl) T.gl_law_failed F_law_failed.kp b_law_failed .nil pass0 (pa_cons (pv 0) (pa_cons (pv 2) (pa_cons (pv 4) pa_nil)))))) pss_nil) (pss_cons (ps_if (pt_cmpR op_eq (pv 1) pe_str (nomark _)) (pss_one (ps_ret (pe_call G_law_step (hr.mono (by decide)) (by rfl) T.gl_law_step F_law_step.kp b_law_step .nil pass0 (pa_cons (pv 0) (pa_cons (pv 4) (pa_cons (pv 5) pa_nil)))))) pss_nil) (pss_one (ps_ret (pe_call G_law_called (hr.mono (by decide)) (by rfl) T.gl_law_called F_law_called.kp b_law_called .nil pass0 (pa_cons (pv 0) (pa_cons (pv 1) (pa_cons (pv 2) (pa_cons (pv 5) pa_nil)))))))))))))), ?_⟩
  cases ek with
  | start =>
    refine ⟨_, rfl, rfl, _, rfl, iteT ?_⟩
    have hn0 : (0 : Int) < (nums.length : Int) + 1 := by omega
    have m0 := Int.emod_nonneg v (show (nums.length : Int) + 1 ≠ 0 by omega)
    have m1 := Int.emod_lt_of_pos v hn0
    obtain ⟨i, hi⟩ : ∃ i : Nat, v % ((nums.length : Int) + 1) = (i : Int) := ⟨(v % ((nums.length : Int) + 1)).toNat, by omega⟩
    obtain ⟨num, hnum⟩ := pick_some nums i (by omega)
    refine ⟨_, rfl, _, _, rfl, dgNumbers N.wd.1, _, rfl, _, rfl, _, _, rfl, dgNumbers N.wd.1, _, _, rfl, .inl (SqL.of N.nl.1), _, _, rfl, rfl, _, _, rfl, rfl, ?_, ?_⟩
    · show (0 : Int) < (((nums.map V.str).length : Nat) : Int) + 1
      rw [List.length_map]
      exact hn0
    refine ⟨_, _, rfl, B.nl, nums, i, rfl, ?_, SqL.of N.nl.1, ?_⟩
    · show V.int (v % ((((nums.map V.str).length : Nat) : Int) + 1)) = _
      rw [List.length_map, hi]
    rw [hnum]
    refine ⟨_, rfl, _, rfl, _, rfl, _, rfl, _, _, _, _, rfl, L, wd, B, nums, fr, wc, wl, p, num, lk, linked, rfl, rfl, rfl, rfl, N, hfl, hlen, hlk, hll, ?_⟩
    have e : (pickS nums (v % ((nums.length : Int) + 1)).toNat).getD Str.empty = num := by rw [hi, Int.toNat_natCast, hnum]; rfl
    have k : WPost L H wd nums fr (mStart ⟨nums, fr.map (·.2)⟩ ⟨wc.map (·.2), wl.map (·.2)⟩ p ((pickS nums (v % ((nums.length : Int) + 1)).toNat).getD Str.empty) linked) Q := k
    rw [e] at k
    exact k
  | connected =>
    refine ⟨_, rfl, rfl, _, rfl, iteF ?_⟩
    refine ⟨_, rfl, rfl, _, rfl, iteT ?_⟩
    exact ⟨_, rfl, _, rfl, _, rfl, _, _, _, rfl, L, wd, B, nums, fr, wc, wl, p, tk, rfl, rfl, rfl, ⟨N, I.nd⟩, inv_cd (β := Nat) I, hwl, k⟩
  | word =>
    refine ⟨_, rfl, rfl, _, rfl, iteF ?_⟩
    refine ⟨_, rfl, rfl, _, rfl, iteF ?_⟩
    refine ⟨_, rfl, rfl, _, rfl, iteT ?_⟩
    refine ⟨_, rfl, _, rfl, _, rfl, _, rfl, v, rfl, fun t H1 s1 ht => ?_⟩
    exact ⟨_, _, _, rfl, L, wd, B, nums, fr, wc, wl, p, wordD v, rfl, rfl, ht, N.same s1, inv_cd (β := Nat) I, k.ext s1⟩
  | disconnect =>
    refine ⟨_, rfl, rfl, _, rfl, iteF ?_⟩
    refine ⟨_, rfl, rfl, _, rfl, iteF ?_⟩
    refine ⟨_, rfl, rfl, _, rfl, iteF ?_⟩
    refine ⟨_, rfl, rfl, _, rfl, iteT ?_⟩
    refine ⟨_, rfl, by show 2 ≤ sizeLine; decide, fun t ht => ⟨by show 1 ≤ sizeLine; decide, fun l hl => ?_⟩⟩
    have s1 := (same_new (o := .tup [.str "release", .int p]) ht).trans (same_new (o := .lst [.ref t]) hl)
    have hl0 := upd_free hl
    have st1 : Step (fun _ => False) L H (setL L l 0) (upd (upd H t (.tup [.str "release", .int p])) l (.lst [.ref t])) := (Step.relab hl0).trans (Step.same s1)
    have N1 := N.keep st1 fun _ _ _ z => z
    have a1 : AL (setL L l 0) (upd (upd H t (.tup [.str "release", .int p])) l (.lst [.ref t])) 0 (.ref l) [relD p] := ⟨l, _, rfl, ⟨upd_same, setL_same⟩, .cons (.tup (upd_old upd_same hl) (.cons (.str _) (.cons (.int _) .nil))) .nil⟩
    refine ⟨_, rfl, _, rfl, _, rfl, _, _, rfl, rfl, (by show (0 : Int) < 128; decide), _, rfl, _, _, _, _, rfl, _, wd, B, nums, fr, wc, wl, p, v % 128, tk, rfl, rfl, rfl, rfl, ⟨N1, I.nd, inv_cd (β := Nat) I, hlen, fun x hx i hi => (inv_ln I x hx i hi).imp fun _ q => q.1⟩, ?_⟩
    intro L2 H2 A2 wc2 wl2 w st2 N2 e1 e2 a2
    have a3 := a1.keep st2 fun z => absurd z.1 (by decide)
    obtain ⟨q1, xs1, eq1, b1, t1⟩ := a3
    obtain ⟨q2, xs2, rfl, b2, t2⟩ := a2
    cases eq1
    refine ⟨l, q2, xs1, xs2, rfl, rfl, b1.1, b2.1, ?_, fun w hw => ?_⟩
    · rw [t1.length, t2.length]
      exact Nat.le_trans (Nat.add_le_add_left (leave_len _ _ _ _) _) (by show 3 ≤ sizeLine; decide)
    · exact k.after (st1.mono fun _ z => z.elim) (setL L2 w 0) _ A2 wc2 wl2 _ (st2.trans ((Step.relab hw).trans (Step.alloc hw))) (N2.keep (S := fun _ => False) ((Step.relab hw).trans (Step.alloc hw)) fun _ _ _ z => z) e1 e2 ⟨w, _, rfl, ⟨upd_same, setL_same⟩, (t1.append t2).same (same_new hw)⟩
  | lost =>
    refine ⟨_, rfl, rfl, _, rfl, iteF ?_⟩
    refine ⟨_, rfl, rfl, _, rfl, iteF ?_⟩
    refine ⟨_, rfl, rfl, _, rfl, iteF ?_⟩
    refine ⟨_, rfl, rfl, _, rfl, iteF ?_⟩
    refine ⟨_, rfl, rfl, _, rfl, iteT ?_⟩
    exact ⟨_, rfl, _, rfl, _, rfl, _, _, _, _, rfl, L, wd, B, nums, fr, wc, wl, p, 27, tk, rfl, rfl, rfl, rfl, ⟨N, I.nd, inv_cd (β := Nat) I, hlen, fun x hx i hi => (inv_ln I x hx i hi).imp fun _ q => q.1⟩, k⟩
  | failed =>
    refine ⟨_, rfl, rfl, _, rfl, iteF ?_⟩
    refine ⟨_, rfl, rfl, _, rfl, iteF ?_⟩
    refine ⟨_, rfl, rfl, _, rfl, iteF ?_⟩
    refine ⟨_, rfl, rfl, _, rfl, iteF ?_⟩
    refine ⟨_, rfl, rfl, _, rfl, iteF ?_⟩
    refine ⟨_, rfl, rfl, _, rfl, iteT ?_⟩
    exact ⟨_, rfl, _, rfl, _, rfl, _, _, _, rfl, L, wd, B, nums, fr, wc, wl, p, lk, linked, rfl, rfl, rfl, ⟨N, I.nd⟩, hfl, I, hlen, hlk, hll, k⟩
  | step =>
    refine ⟨_, rfl, rfl, _, rfl, iteF ?_⟩
    refine ⟨_, rfl, rfl, _, rfl, iteF ?_⟩
    refine ⟨_, rfl, rfl, _, rfl, iteF ?_⟩
    refine ⟨_, rfl, rfl, _, rfl, iteF ?_⟩
    refine ⟨_, rfl, rfl, _, rfl, iteF ?_⟩
    refine ⟨_, rfl, rfl, _, rfl, iteF ?_⟩
    refine ⟨_, rfl, rfl, _, rfl, iteT ?_⟩
    exact ⟨_, rfl, _, rfl, _, rfl, _, _, _, rfl, L, wd, B, nums, fr, wc, wl, lk, linked, tk, rfl, rfl, rfl, N, hfl, I, hlen, hlk, hll, k⟩
  | answered =>
    refine ⟨_, rfl, rfl, _, rfl, iteF ?_⟩
    refine ⟨_, rfl, rfl, _, rfl, iteF ?_⟩
    refine ⟨_, rfl, rfl, _, rfl, iteF ?_⟩
    refine ⟨_, rfl, rfl, _, rfl, iteF ?_⟩
    refine ⟨_, rfl, rfl, _, rfl, iteF ?_⟩
    refine ⟨_, rfl, rfl, _, rfl, iteF ?_⟩
    refine ⟨_, rfl, rfl, _, rfl, iteF ?_⟩
    exact ⟨_, rfl, _, rfl, _, rfl, _, rfl, _, _, _, _, rfl, L, wd, B, nums, fr, wc, wl, .answered, p, tk, rfl, rfl, rfl, rfl, ⟨N, I.nd⟩, inv_cv I, k⟩
  | alerting =>
    refine ⟨_, rfl, rfl, _, rfl, iteF ?_⟩
    refine ⟨_, rfl, rfl, _, rfl, iteF ?_⟩
    refine ⟨_, rfl, rfl, _, rfl, iteF ?_⟩
    refine ⟨_, rfl, rfl, _, rfl, iteF ?_⟩
    refine ⟨_, rfl, rfl, _, rfl, iteF ?_⟩
    refine ⟨_, rfl, rfl, _, rfl, iteF ?_⟩
    refine ⟨_, rfl, rfl, _, rfl, iteF ?_⟩
    exact ⟨_, rfl, _, rfl, _, rfl, _, rfl, _, _, _, _, rfl, L, wd, B, nums, fr, wc, wl, .alerting, p, tk, rfl, rfl, rfl, rfl, ⟨N, I.nd⟩, inv_cv I, k⟩
  | connect =>
    refine ⟨_, rfl, rfl, _, rfl, iteF ?_⟩
    refine ⟨_, rfl, rfl, _, rfl, iteF ?_⟩
    refine ⟨_, rfl, rfl, _, rfl, iteF ?_⟩
    refine ⟨_, rfl, rfl, _, rfl, iteF ?_⟩
    refine ⟨_, rfl, rfl, _, rfl, iteF ?_⟩
    refine ⟨_, rfl, rfl, _, rfl, iteF ?_⟩
    refine ⟨_, rfl, rfl, _, rfl, iteF ?_⟩
    exact ⟨_, rfl, _, rfl, _, rfl, _, rfl, _, _, _, _, rfl, L, wd, B, nums, fr, wc, wl, .connect, p, tk, rfl, rfl, rfl, rfl, ⟨N, I.nd⟩, inv_cv I, k⟩
def spActions (K : PySem.W.Frag) : Sp := sp7 fun a b c d e f g H Q => ∃ (L : Lb) (sw ho : Addr) (Ap : PA) (ac : List (Addr × CallR)) (al : List (Addr × LineR)) (Ah : HA) (ps : List PRec) (wd : Addr) (A : WA) (nums : List Str) (fr : List (Addr × Fct)) (wc : List (Addr × CallR)) (wl : List (Addr × LineR)) (ek : Ek) (p v : Int) (lk : Addr) (linked : List Int) (t : Int),
  a = .ref sw ∧ b = .ref wd ∧ c = .str ek.s ∧ d = .int p ∧ e = .int v ∧ f = .ref lk ∧ g = .int t ∧ PN K L H sw ho Ap ac al ∧ HM K L H ho Ah ps ∧ Says ps ⟨nums, fr.map (·.2)⟩ ∧ WN L H wd A nums fr wc wl ∧ Inv0 nums.length ⟨ac.map (·.2), al.map (·.2)⟩ ∧ ac.length ≤ 1000 ∧ al.length ≤ 1000 ∧ At L H 0 lk (.lst (linked.map V.int)) ∧ linked.length ≤ 1000 ∧
  PPost K L H sw ho (mEvent ⟨nums, fr.map (·.2)⟩ ⟨ac.map (·.2), al.map (·.2)⟩ ek p v linked t) Q
theorem ok_law_actions (T : Hd K mg) : OkD P w K mg base d_law_actions 7 P_law_actions (spActions K) := by
  obtain ⟨fd, F⟩ := T.says.def_ 65 (d := d_law_actions) rfl
  obtain ⟨_, F_law_pick, b_law_pick, G_law_pick⟩ := ok_law_pick (P := P) (w := w) (base := base) T
  obtain ⟨_, F_Switch_start, b_Switch_start, G_Switch_start⟩ := ok_Switch_start (P := P) (w := w) (base := base) T
  obtain ⟨_, F_Switch_answered, b_Switch_answered, G_Switch_answered⟩ := ok_Switch_answered (P := P) (w := w) (base := base) T
  obtain ⟨_, F_Switch_alerting, b_Switch_alerting, G_Switch_alerting⟩ := ok_Switch_alerting (P := P) (w := w) (base := base) T
  obtain ⟨_, F_Switch_connect, b_Switch_connect, G_Switch_connect⟩ := ok_Switch_connect (P := P) (w := w) (base := base) T
  obtain ⟨_, F_Switch_connected, b_Switch_connected, G_Switch_connected⟩ := ok_Switch_connected (P := P) (w := w) (base := base) T
  obtain ⟨_, F_Switch_word, b_Switch_word, G_Switch_word⟩ := ok_Switch_word (P := P) (w := w) (base := base) T
  obtain ⟨_, F_law_word_of, b_law_word_of, G_law_word_of⟩ := ok_law_word_of (P := P) (w := w) (base := base) T
  obtain ⟨_, F_Switch_disconnect, b_Switch_disconnect, G_Switch_disconnect⟩ := ok_Switch_disconnect (P := P) (w := w) (base := base) T
  obtain ⟨_, F_Switch_lost, b_Switch_lost, G_Switch_lost⟩ := ok_Switch_lost (P := P) (w := w) (base := base) T
  obtain ⟨_, F_Switch_failed, b_Switch_failed, G_Switch_failed⟩ := ok_Switch_failed (P := P) (w := w) (base := base) T
  obtain ⟨_, F_Switch_step, b_Switch_step, G_Switch_step⟩ := ok_Switch_step (P := P) (w := w) (base := base) T
  refine ⟨fd, F, F.bindsN (ps := P_law_actions) (fun _ _ _ _ _ _ us hl => match us, hl with | [_, _, _, _, _, _, _], _ => rfl), F.ok sc_law_actions (fun vs H Q E h => sp7_len h) (fun cdv A outer s H vs Q E hr h => ?_)⟩
  have hu := hu_of hr
  obtain ⟨a, b, c, d, e, f, g, rfl, L, sw, ho, Ap, ac, al, Ah, ps, wd, B, nums, fr, wc, wl, ek, p, v, lk, linked, tk, rfl, rfl, rfl, rfl, rfl, rfl, rfl, PNn, M, Sy, N, I, hlen, hal, hlk, hll, k⟩ := h
  refine ⟨_, PSs.nox (pss_cons (ps_if (pt_cmpR op_eq (pv 2) pe_str (nomark _)) (pss_cons (ps_set (i := 7) sc_law_actions.nd rfl (Or.inl rfl) (pe_call G_law_pick (hr.mono (by decide)) (by rfl) T.gl_law_pick F_law_pick.kp b_law_pick .nil pass0 (pa_cons (pe_dget hu (pv 1) pe_str (fun _ _ => rfl)) (pa_cons (pe_op op_mod (pv 4) (pe_op op_add (pe_callB call_len_seq (by rfl) T.fr_len PySem.boot_len (pa_cons (pe_dget hu (pv 1) pe_str (fun _ _ => rfl)) pa_nil)) pe_int)) pa_nil)))) (pss_one (ps_ret (pe_meth (pv 0) T.cl_Switch T.me_Switch_start G_Switch_start (hr.mono (by decide)) b_Switch_start .nil pass0 (pa_cons (pv 3) (pa_cons (pv 7) (pa_cons (pv 5) (pa_cons (pv 6) pa_nil)))))))) pss_nil) (pss_cons (ps_if (pt_cmpR op_eq (pv 2) pe_str (nomark _)) (pss_one (ps_ret (pe_meth (pv 0) T.cl_Switch T.me_Switch_answered G_Switch_answered (hr.mono (by decide)) b_Switch_answered .nil pass0 (pa_cons (pv 3) (pa_cons (pv 6) pa_nil))))) pss_nil) (pss_cons (ps_if (pt_cmpR op_eq (pv 2) pe_str (nomark _)) (pss_one (ps_ret (pe_meth (pv 0) T.cl_Switch T.me_Switch_alerting G_Switch_alerting (hr.mono (by decide)) b_Switch_alerting .nil pass0 (pa_cons (pv 3) pa_nil)))) pss_nil) (pss_cons (ps_if (pt_cmpR op_eq (pv 2) pe_str (nomark _)) (pss_one (ps_ret (pe_meth (pv 0) T.cl_Switch T.me_Switch_connect G_Switch_connect (hr.mono (by decide)) b_Switch_connect .nil pass0 (pa_cons (pv 3) pa_nil)))) pss_nil) (pss_cons (ps_if (pt_cmpR op_eq (pv 2) pe_str (nomark _)) (pss_one (ps_ret (pe_meth (pv 0) T.cl_Switch T.me_Switch_connected G_Switch_connected (hr.mono (by decide)) b_Switch_connected .nil pass0 (pa_cons (pv 3) (pa_cons (pv 6) pa_nil))))) pss_nil) (pss_cons (ps_if (pt_cmpR op_eq (pv 2) pe_str (nomark _)) (pss_one (ps_ret (pe_meth (pv 0) T.cl_Switch T.me_Switch_word G_Switch_word (hr.mono (by decide)) b_Switch_word .nil pass0 (pa_cons (pv 3) (pa_cons (pe_call G_law_word_of (hr.mono (by decide)) (by rfl) T.gl_law_word_of F_law_word_of.kp b_law_word_of .nil pass0 (pa_cons (pv 4) pa_nil)) pa_nil))))) pss_nil) (pss_cons (ps_if (pt_cmpR op_eq (pv 2) pe_str (nomark _)) (pss_one (ps_ret (pe_meth (pv 0) T.cl_Switch T.me_Switch_disconnect G_Switch_disconnect (hr.mono (by decide)) b_Switch_disconnect .nil pass0 (pa_cons (pv 3) (pa_cons (pe_op op_mod (pv 4) pe_int) (pa_cons (pv 6) pa_nil)))))) pss_nil) (pss_cons (ps_if (pt_cmpR op_eq (pv 2) pe_str (nomark _)) (pss_one (ps_ret (pe_meth (pv 0) T.cl_Switch T.me_Switch_lost G_Switch_lost (hr.mono (by decide)) b_Switch_lost .nil pass0 (pa_cons (pv 3) (pa_cons (pv 6) pa_nil))))) pss_nil) (pss_cons (ps_if (pt_cmpR op_eq (pv 2) pe_str (nomark _)) (pss_one (ps_ret (pe_meth (pv 0) T.cl_Switch T.me_Switch_failed G_Switch_failed (hr.mono (by decide)) b_Switch_failed .nil pass0 (pa_cons (pv 3) (pa_cons (pv 5) (pa_cons (pv 6) pa_nil)))))) pss_nil) (pss_one (ps_ret (pe_meth (pv 0) T.cl_Switch T.me_Switch_step G_Switch_step (hr.mono (by decide)) b_Switch_step .nil pass0 (pa_cons (pv 5) (pa_cons (pv 6) pa_nil)))))))))))))), ?_⟩
  have I0 : Inv0 (⟨nums, fr.map (fun x : Addr × Fct => x.2)⟩ : Env0).nums.length ⟨ac.map (·.2), al.map (·.2)⟩ := I
  cases ek with
  | start =>
    refine ⟨_, rfl, rfl, _, rfl, iteT ?_⟩
    have hn0 : (0 : Int) < (nums.length : Int) + 1 := by omega
    have m0 := Int.emod_nonneg v (show (nums.length : Int) + 1 ≠ 0 by omega)
    have m1 := Int.emod_lt_of_pos v hn0
    obtain ⟨i, hi⟩ : ∃ i : Nat, v % ((nums.length : Int) + 1) = (i : Int) := ⟨(v % ((nums.length : Int) + 1)).toNat, by omega⟩
    obtain ⟨num, hnum⟩ := pick_some nums i (by omega)
    refine ⟨_, rfl, _, _, rfl, dgNumbers N.wd.1, _, rfl, _, rfl, _, _, rfl, dgNumbers N.wd.1, _, _, rfl, .inl (SqL.of N.nl.1), _, _, rfl, rfl, _, _, rfl, rfl, ?_, ?_⟩
    · show (0 : Int) < (((nums.map V.str).length : Nat) : Int) + 1
      rw [List.length_map]
      exact hn0
    refine ⟨_, _, rfl, B.nl, nums, i, rfl, ?_, SqL.of N.nl.1, ?_⟩
    · show V.int (v % ((((nums.map V.str).length : Nat) : Int) + 1)) = _
      rw [List.length_map, hi]
    rw [hnum]
    refine ⟨_, rfl, sw, _, _, rfl, PNn.sw.1, rfl, _, rfl, _, rfl, _, rfl, _, rfl, _, _, _, _, _, rfl, L, sw, ho, Ap, ac, al, Ah, ps, (⟨nums, fr.map (fun x : Addr × Fct => x.2)⟩ : Env0), p, num, lk, linked, rfl, rfl, rfl, rfl, PNn, M, Sy, inv_cd (β := Nat) I, hlen, SqL.of hlk.1, hll, ?_⟩
    have e : (pickS nums (v % ((nums.length : Int) + 1)).toNat).getD Str.empty = num := by rw [hi, Int.toNat_natCast, hnum]; rfl
    have k : PPost K L H sw ho (mStart (⟨nums, fr.map (fun x : Addr × Fct => x.2)⟩ : Env0) ⟨ac.map (·.2), al.map (·.2)⟩ p ((pickS nums (v % ((nums.length : Int) + 1)).toNat).getD Str.empty) linked) Q := k
    rw [e] at k
    exact k
  | answered =>
    refine ⟨_, rfl, rfl, _, rfl, iteF ?_⟩
    refine ⟨_, rfl, rfl, _, rfl, iteT ?_⟩
    exact ⟨_, rfl, sw, _, _, rfl, PNn.sw.1, rfl, _, rfl, _, rfl, _, _, _, rfl, L, sw, ho, Ap, ac, al, Ah, ps, (⟨nums, fr.map (fun x : Addr × Fct => x.2)⟩ : Env0), p, tk, rfl, rfl, rfl, ⟨PNn, I.nd⟩, M, Sy, inv_cv I, k⟩
  | alerting =>
    refine ⟨_, rfl, rfl, _, rfl, iteF ?_⟩
    refine ⟨_, rfl, rfl, _, rfl, iteF ?_⟩
    refine ⟨_, rfl, rfl, _, rfl, iteT ?_⟩
    exact ⟨_, rfl, sw, _, _, rfl, PNn.sw.1, rfl, _, rfl, _, _, rfl, L, sw, ho, Ap, ac, al, p, rfl, rfl, ⟨PNn, I.nd⟩, k⟩
  | connect =>
    refine ⟨_, rfl, rfl, _, rfl, iteF ?_⟩
    refine ⟨_, rfl, rfl, _, rfl, iteF ?_⟩
    refine ⟨_, rfl, rfl, _, rfl, iteF ?_⟩
    refine ⟨_, rfl, rfl, _, rfl, iteT ?_⟩
    exact ⟨_, rfl, sw, _, _, rfl, PNn.sw.1, rfl, _, rfl, _, _, rfl, L, sw, ho, Ap, ac, al, p, rfl, rfl, ⟨PNn, I.nd⟩, k⟩
  | connected =>
    refine ⟨_, rfl, rfl, _, rfl, iteF ?_⟩
    refine ⟨_, rfl, rfl, _, rfl, iteF ?_⟩
    refine ⟨_, rfl, rfl, _, rfl, iteF ?_⟩
    refine ⟨_, rfl, rfl, _, rfl, iteF ?_⟩
    refine ⟨_, rfl, rfl, _, rfl, iteT ?_⟩
    exact ⟨_, rfl, sw, _, _, rfl, PNn.sw.1, rfl, _, rfl, _, rfl, _, _, _, rfl, L, sw, ho, Ap, ac, al, p, tk, rfl, rfl, rfl, ⟨PNn, I.nd⟩, inv_cd (β := Nat) I, hal, k⟩
  | word =>
    refine ⟨_, rfl, rfl, _, rfl, iteF ?_⟩
    refine ⟨_, rfl, rfl, _, rfl, iteF ?_⟩
    refine ⟨_, rfl, rfl, _, rfl, iteF ?_⟩
    refine ⟨_, rfl, rfl, _, rfl, iteF ?_⟩
    refine ⟨_, rfl, rfl, _, rfl, iteF ?_⟩
    refine ⟨_, rfl, rfl, _, rfl, iteT ?_⟩
    refine ⟨_, rfl, sw, _, _, rfl, PNn.sw.1, rfl, _, rfl, _, rfl, _, rfl, v, rfl, fun t H1 s1 ht => ?_⟩
    exact ⟨_, _, _, rfl, L, sw, ho, Ap, ac, al, p, wordD v, rfl, rfl, ht, PNn.same s1, inv_cd (β := Nat) I, k.ext s1⟩
  | disconnect =>
    refine ⟨_, rfl, rfl, _, rfl, iteF ?_⟩
    refine ⟨_, rfl, rfl, _, rfl, iteF ?_⟩
    refine ⟨_, rfl, rfl, _, rfl, iteF ?_⟩
    refine ⟨_, rfl, rfl, _, rfl, iteF ?_⟩
    refine ⟨_, rfl, rfl, _, rfl, iteF ?_⟩
    refine ⟨_, rfl, rfl, _, rfl, iteF ?_⟩
    refine ⟨_, rfl, rfl, _, rfl, iteT ?_⟩
    exact ⟨_, rfl, sw, _, _, rfl, PNn.sw.1, rfl, _, rfl, _, rfl, _, _, rfl, rfl, (by show (0 : Int) < 128; decide), _, rfl, _, _, _, _, rfl, L, sw, ho, Ap, ac, al, p, v % 128, tk, rfl, rfl, rfl, rfl, ⟨PNn, inv_cd (β := Nat) I, hlen, inv_ln I⟩, k⟩
  | lost =>
    refine ⟨_, rfl, rfl, _, rfl, iteF ?_⟩
    refine ⟨_, rfl, rfl, _, rfl, iteF ?_⟩
    refine ⟨_, rfl, rfl, _, rfl, iteF ?_⟩
    refine ⟨_, rfl, rfl, _, rfl, iteF ?_⟩
    refine ⟨_, rfl, rfl, _, rfl, iteF ?_⟩
    refine ⟨_, rfl, rfl, _, rfl, iteF ?_⟩
    refine ⟨_, rfl, rfl, _, rfl, iteF ?_⟩
    refine ⟨_, rfl, rfl, _, rfl, iteT ?_⟩
    exact ⟨_, rfl, sw, _, _, rfl, PNn.sw.1, rfl, _, rfl, _, rfl, _, _, _, rfl, L, sw, ho, Ap, ac, al, p, tk, rfl, rfl, rfl, ⟨PNn, inv_cd (β := Nat) I, hlen, inv_ln I⟩, k⟩
  | failed =>
    refine ⟨_, rfl, rfl, _, rfl, iteF ?_⟩
    refine ⟨_, rfl, rfl, _, rfl, iteF ?_⟩
    refine ⟨_, rfl, rfl, _, rfl, iteF ?_⟩
    refine ⟨_, rfl, rfl, _, rfl, iteF ?_⟩
    refine ⟨_, rfl, rfl, _, rfl, iteF ?_⟩
    refine ⟨_, rfl, rfl, _, rfl, iteF ?_⟩
    refine ⟨_, rfl, rfl, _, rfl, iteF ?_⟩
    refine ⟨_, rfl, rfl, _, rfl, iteF ?_⟩
    refine ⟨_, rfl, rfl, _, rfl, iteT ?_⟩
    exact ⟨_, rfl, sw, _, _, rfl, PNn.sw.1, rfl, _, rfl, _, rfl, _, rfl, _, _, _, _, rfl, L, sw, ho, Ap, ac, al, Ah, ps, (⟨nums, fr.map (fun x : Addr × Fct => x.2)⟩ : Env0), p, lk, linked, rfl, rfl, rfl, ⟨PNn, I.nd⟩, M, Sy, I, hlen, hlk, hll, k⟩
  | step =>
    refine ⟨_, rfl, rfl, _, rfl, iteF ?_⟩
    refine ⟨_, rfl, rfl, _, rfl, iteF ?_⟩
    refine ⟨_, rfl, rfl, _, rfl, iteF ?_⟩
    refine ⟨_, rfl, rfl, _, rfl, iteF ?_⟩
    refine ⟨_, rfl, rfl, _, rfl, iteF ?_⟩
    refine ⟨_, rfl, rfl, _, rfl, iteF ?_⟩
    refine ⟨_, rfl, rfl, _, rfl, iteF ?_⟩
    refine ⟨_, rfl, rfl, _, rfl, iteF ?_⟩
    refine ⟨_, rfl, rfl, _, rfl, iteF ?_⟩
    exact ⟨_, rfl, sw, _, _, rfl, PNn.sw.1, rfl, _, rfl, _, rfl, _, _, _, rfl, L, sw, ho, Ap, ac, al, Ah, ps, (⟨nums, fr.map (fun x : Addr × Fct => x.2)⟩ : Env0), lk, linked, tk, rfl, rfl, rfl, PNn, M, Sy, I, hlen, hlk, hll, k⟩
end
end Mob

set_option Elab.async false
set_option linter.all false
set_option maxRecDepth 100000
set_option maxHeartbeats 4000000
namespace Mob
open PySem PySem.Spec PyProof.Rows L2
section
variable {P : Program} {w : World} {K : PySem.W.Frag} {mg : Str → Option Value} {base : Heap}
/-! ### the law's agrees -/
def finD : Option (Int × Int) → List PyData
  | none => [.none, .none]
  | some (t, c) => [.int t, .int c]
def lineD (l : LineR) : PyData := .tuple (.int l.caller :: .int l.called :: .int l.began :: finD l.fin)
theorem td_line {H : Hp} {x : Addr × LineR} (h : H x.1 = some (.tup (lineV x.2))) : TD H (.ref x.1) (lineD x.2) := by
  refine .tup h ?_
  obtain ⟨a, b, c, d, f⟩ := x
  cases f with
  | none => exact .cons (.int _) (.cons (.int _) (.cons (.int _) (.cons .non (.cons .non .nil))))
  | some tc => exact .cons (.int _) (.cons (.int _) (.cons (.int _) (.cons (.int _) (.cons (.int _) .nil))))
theorem td_lines {H : Hp} : ∀ {al : List (Addr × LineR)}, (∀ x ∈ al, H x.1 = some (.tup (lineV x.2))) → TDs H (al.map fun x => V.ref x.1) (al.map fun x => lineD x.2)
  | [], _ => .nil
  | x :: al, h => .cons (td_line (h x List.mem_cons_self)) (td_lines fun y hy => h y (List.mem_cons_of_mem _ hy))
/-- data that can be compared -/
def FineD (d : PyData) : Prop := d.canLay0 = true ∧ d.depth ≤ 8
theorem fine_all : ∀ {ds : List PyData}, (∀ d ∈ ds, FineD d) → PyData.canLayAll0 ds = true ∧ PyData.depthAll ds ≤ 8
  | [], _ => ⟨rfl, Nat.zero_le _⟩
  | d :: ds, h => by
    obtain ⟨a, b⟩ := fine_all fun y hy => h y (List.mem_cons_of_mem _ hy)
    obtain ⟨c, e⟩ := h d List.mem_cons_self
    refine ⟨?_, ?_⟩
    · rw [PyData.canLayAll0, a, c]; rfl
    · rw [PyData.depthAll]; omega
theorem shaped_list {ds : List PyData} (h : ∀ d ∈ ds, FineD d) : SeqAt.shaped (.list ds) = true := by
  obtain ⟨a, b⟩ := fine_all h
  unfold SeqAt.shaped
  rw [PyData.canLay0, a, PyData.depth, Bool.true_and, decide_eq_true_eq]
  omega
theorem shaped_fine {d : PyData} (h : FineD d) : SeqAt.shaped d = true := by
  unfold SeqAt.shaped
  rw [h.1, Bool.true_and, decide_eq_true_eq]
  exact Nat.le_trans h.2 (by decide)
theorem fine_stg (s : Stg) : PyData.canLay0 (.str s.s) = true := by cases s <;> decide +kernel
theorem fine_call (r : CallR) : FineD (callD r) := by
  obtain ⟨a, b, s, _, _, _⟩ := r
  have e := fine_stg s
  cases b with
  | none => exact ⟨by show PyData.canLayAll0 [.int a, .none, .str s.s] = true; simp only [PyData.canLayAll0, e]; rfl, by show PyData.depthAll [.int a, .none, .str s.s] + 1 ≤ 8; simp [PyData.depth, PyData.depthAll]⟩
  | some g => exact ⟨by show PyData.canLayAll0 [.int a, .int g, .str s.s] = true; simp only [PyData.canLayAll0, e]; rfl, by show PyData.depthAll [.int a, .int g, .str s.s] + 1 ≤ 8; simp [PyData.depth, PyData.depthAll]⟩
theorem fine_line (l : LineR) : FineD (lineD l) := by
  obtain ⟨a, b, c, f⟩ := l
  cases f with
  | none => exact ⟨rfl, by show (1 : Nat) ≤ 8; decide⟩
  | some tc => exact ⟨rfl, by show (1 : Nat) ≤ 8; decide⟩
theorem ne_same {d : PyData} (s : SeqAt.shaped d = true) : (!PyData.eqv d d) = false := by rw [SeqAt.eqv_refl d (SeqAt.canLay_of_shaped s)]; rfl
theorem call_data {ac wc : List (Addr × CallR)} (e : ac.map (·.2) = wc.map (·.2)) : (ac.map fun x => callD x.2) = wc.map fun x => callD x.2 := by
  have h : ∀ l : List (Addr × CallR), (l.map fun x => callD x.2) = (l.map (·.2)).map callD := fun l => by rw [List.map_map]; rfl
  rw [h, h, e]
theorem line_data {al wl : List (Addr × LineR)} (e : al.map (·.2) = wl.map (·.2)) : (al.map fun x => lineD x.2) = wl.map fun x => lineD x.2 := by
  have h : ∀ l : List (Addr × LineR), (l.map fun x => lineD x.2) = (l.map (·.2)).map lineD := fun l => by rw [List.map_map]; rfl
  rw [h, h, e]
theorem fine_calls {wc : List (Addr × CallR)} : ∀ d ∈ wc.map fun x => callD x.2, FineD d := fun d h => by
  obtain ⟨x, _, rfl⟩ := List.mem_map.mp h
  exact fine_call _
theorem fine_lines {wl : List (Addr × LineR)} : ∀ d ∈ wl.map fun x => lineD x.2, FineD d := fun d h => by
  obtain ⟨x, _, rfl⟩ := List.mem_map.mp h
  exact fine_line _
def spAgrees (K : PySem.W.Frag) : Sp := sp2 fun a b H Q => ∃ (L : Lb) (sw ho : Addr) (Ap : PA) (ac : List (Addr × CallR)) (al : List (Addr × LineR)) (wd : Addr) (A : WA) (nums : List Str) (fr : List (Addr × Fct)) (wc : List (Addr × CallR)) (wl : List (Addr × LineR)),
  a = .ref sw ∧ b = .ref wd ∧ PN K L H sw ho Ap ac al ∧ WN L H wd A nums fr wc wl ∧ ac.map (·.2) = wc.map (·.2) ∧ al.map (·.2) = wl.map (·.2) ∧ ac.length ≤ 1000 ∧ nums.length ≤ 1000 ∧
  ∀ H', Same H H' → Q (.bl true) H'
theorem ok_law_agrees (T : Hd K mg) : OkD P w K mg base d_law_agrees 3 P_law_agrees (spAgrees K) := by
  obtain ⟨fd, F⟩ := T.says.def_ 66 (d := d_law_agrees) rfl
  obtain ⟨_, F_Switch_calls, b_Switch_calls, G_Switch_calls⟩ := ok_Switch_calls (P := P) (w := w) (base := base) T
  obtain ⟨_, F_Book_lines, b_Book_lines, G_Book_lines⟩ := ok_Book_lines (P := P) (w := w) (base := base) T
  obtain ⟨_, F_law_find, b_law_find, G_law_find⟩ := ok_law_find (P := P) (w := w) (base := base) T
  obtain ⟨_, F_Switch_call_of, b_Switch_call_of, G_Switch_call_of⟩ := ok_Switch_call_of (P := P) (w := w) (base := base) T
  obtain ⟨_, F_Switch_is_leg, b_Switch_is_leg, G_Switch_is_leg⟩ := ok_Switch_is_leg (P := P) (w := w) (base := base) T
  obtain ⟨_, F_law_leg, b_law_leg, G_law_leg⟩ := ok_law_leg (P := P) (w := w) (base := base) T
  refine ⟨fd, F, F.bindsN (ps := P_law_agrees) (fun _ _ _ _ _ _ us hl => match us, hl with | [_, _], _ => rfl), F.ok sc_law_agrees (fun vs H Q E h => sp2_len h) (fun cdv A outer s H vs Q E hr h => ?_)⟩
  have hu := hu_of hr
  obtain ⟨a, b, rfl, L, sw, ho, Ap, ac, al, wd, B, nums, fr, wc, wl, rfl, rfl, PNn, N, ec, el, hlen, hnl, k⟩ := h
  have hlen2 : wc.length ≤ 1000 := by
    have := congrArg List.length ec
    rw [List.length_map, List.length_map] at this
    omega
  refine ⟨_, PSs.nox (pss_cons (ps_setLc (i := 2) (own := [("_law_call", 5)]) (g := gName 5) (tt := tYes) rfl sc_law_agrees.nd rfl rfl (sw_true rfl rfl rfl (by decide +kernel)) (pi_list (pe_dget hu (pv 1) pe_str (fun _ _ => rfl))) (blkOk_by (own := [("_law_call", 5)]) (N := N_law_agrees) (sc := defScope s_law_agrees) (by decide +kernel)) (fun _ _ _ _ _ => pg_name (i := 5) sc_law_agrees.nd rfl (Or.inl rfl)) (fun _ _ _ _ _ => pts_nil) (fun _ _ _ _ _ => (pe_tup (pa_cons (pe_dget hu (pv 5) pe_str (fun _ _ => rfl)) (pa_cons (pe_dget hu (pv 5) pe_str (fun _ _ => rfl)) (pa_cons (pe_dget hu (pv 5) pe_str (fun _ _ => rfl)) pa_nil)))))) (pss_cons (ps_set (i := 3) sc_law_agrees.nd rfl (Or.inl rfl) (pe_meth0 (pv 0) T.cl_Switch T.me_Switch_calls G_Switch_calls (hr.mono (by decide)) b_Switch_calls .nil pass0)) (pss_cons (ps_if ((pw_or (pt_not (pt_val (pe_callB call_isi (by rfl) T.fr_isinstance (by decide +kernel) (pa_cons (pv 3) (pa_cons (pe_bltn (v := .ty "list") (u := .type "list") (by rfl) T.fr_list (by decide +kernel) rfl) pa_nil))))) (pw_or (pt_cmpR (op_neD hr.units) (pv 3) (pv 2) (nomark _)) (pw_or1 (pt_cmpR (op_neD hr.units) (pe_meth0 (pe_fld (pv 0) rfl) T.cl_Book T.me_Book_lines G_Book_lines (hr.mono (by decide)) b_Book_lines .nil pass0) (pe_dget hu (pv 1) pe_str (fun _ _ => rfl)) (nomark _)))))).pt (pss_one (ps_ret pe_bl)) pss_nil) (pss_cons (ps_expr (pe_bm PySem.F.plainAttrs_list PySem.F.slot_list_append PySem.F.type_list_append mt_append (pv 3) (pa_cons pe_non pa_nil))) (pss_cons (ps_if (pt_cmpR (op_neD hr.units) (pe_meth0 (pv 0) T.cl_Switch T.me_Switch_calls G_Switch_calls (hr.mono (by decide)) b_Switch_calls .nil pass0) (pv 2) (nomark _)) (pss_one (ps_ret pe_bl)) pss_nil) (pss_cons (ps_for PassesOwn.never rfl (pi_range1 rfl T.fr_range (pa_cons (pe_callB call_len_seq (by rfl) T.fr_len PySem.boot_len (pa_cons (pe_dget hu (pv 1) pe_str (fun _ _ => rfl)) pa_nil)) pa_nil)) (pg_name (i := 4) sc_law_agrees.nd rfl (Or.inl rfl)) (pss_cons (ps_set (i := 5) sc_law_agrees.nd rfl (Or.inl rfl) (pe_call G_law_find (hr.mono (by decide)) (by rfl) T.gl_law_find F_law_find.kp b_law_find .nil pass0 (pa_cons (pe_dget hu (pv 1) pe_str (fun _ _ => rfl)) (pa_cons (pv 4) pa_nil)))) (pss_cons (ps_set (i := 3) sc_law_agrees.nd rfl (Or.inl rfl) (pe_meth (pv 0) T.cl_Switch T.me_Switch_call_of G_Switch_call_of (hr.mono (by decide)) b_Switch_call_of .nil pass0 (pa_cons (pv 4) pa_nil))) (pss_cons (ps_if ((pw_and (pt_cmpR op_isN (pv 5) pe_non (nomark _)) (pw_and1 (pt_cmpR op_notN (pv 3) pe_non (nomark _))))).pt (pss_one (ps_ret pe_bl)) pss_nil) (pss_cons (ps_if ((pw_and (pt_cmpR op_notN (pv 5) pe_non (nomark _)) (pw_and1 (pt_cmpR (op_neD hr.units) (pv 3) (pe_tup (pa_cons (pe_dget hu (pv 5) pe_str (fun _ _ => rfl)) (pa_cons (pe_dget hu (pv 5) pe_str (fun _ _ => rfl)) (pa_cons (pe_dget hu (pv 5) pe_str (fun _ _ => rfl)) pa_nil)))) (nomark _))))).pt (pss_one (ps_ret pe_bl)) pss_nil) (pss_cons (ps_set (i := 6) sc_law_agrees.nd rfl (Or.inl rfl) (pe_meth (pv 0) T.cl_Switch T.me_Switch_is_leg G_Switch_is_leg (hr.mono (by decide)) b_Switch_is_leg .nil pass0 (pa_cons (pv 4) pa_nil))) (pss_one (ps_if ((pw_or (pt_not (pt_val (pe_callB call_isi (by rfl) T.fr_isinstance (by decide +kernel) (pa_cons (pv 6) (pa_cons (pe_bltn (v := .ty "bool") (u := .type "bool") (by rfl) T.fr_bool (by decide +kernel) rfl) pa_nil))))) (pw_or1 (pt_cmpR op_ne (pv 6) (pe_call G_law_leg (hr.mono (by decide)) (by rfl) T.gl_law_leg F_law_leg.kp b_law_leg .nil pass0 (pa_cons (pe_dget hu (pv 1) pe_str (fun _ _ => rfl)) (pa_cons (pv 4) pa_nil))) (nomark _))))).pt (pss_one (ps_ret pe_bl)) pss_nil)))))))) (pss_one (ps_ret pe_bl)))))))), ?_⟩
  refine ⟨_, rfl, _, _, rfl, dgCalls N.wd.1, _, rfl, ⟨_, SqL.of N.cl.1⟩, fun D hD => lc_list (K := K) (a := B.cl) (xs := wc.map fun x => V.ref x.1)
    (fun i H2 => Same H H2 ∧ ∃ xs, H2 D = some (.lst xs) ∧ TDs H2 xs ((wc.map fun x => callD x.2).take i)) ⟨same_new hD, [], upd_same, .nil⟩ (fun i H2 _ h => SqL.of (h.1 _ _ N.cl.1)) ?_ ?_⟩
  · rintro i x H2 hi ⟨s2, xs, h2, t2⟩
    obtain ⟨y, hy, rfl⟩ := map_at hi
    have hc := N.calls y (List.mem_of_getElem? hy)
    have hc2 := s2 _ _ hc.1
    have hyc : (wc.map fun x => callD x.2)[i]? = some (callD y.2) := by rw [List.getElem?_map, hy]; rfl
    refine ⟨rfl, ?_⟩
    refine ⟨_, rfl, _, _, rfl, dgCaller hc2, _, rfl, _, _, rfl, dgCalled hc2, _, rfl, _, _, rfl, dgState hc2, by show 3 ≤ sizeLine; decide, fun t ht => ?_⟩
    have hxl : xs.length = i := by
      rw [t2.length, List.length_take, List.length_map]
      have := (List.getElem?_eq_some_iff.mp hy).1
      omega
    have hil := (List.getElem?_eq_some_iff.mp hy).1
    refine ⟨xs, upd_old h2 ht, small1000 (by omega), same_mut (s2.trans (same_new ht)) hD, _, upd_same, ?_⟩
    have nDt : t ≠ D := fun z => by rw [z, h2] at ht; cases ht
    have key : ∀ b zs, H2 b = some (.tup zs) → upd (upd H2 t (.tup [.int y.2.caller, oI y.2.called, .str y.2.st.s])) D (.lst (xs ++ [.ref t])) b = some (.tup zs) := fun b zs q => by
      rw [upd_ne (ne_of q h2 (by intro z; cases z))]
      exact upd_old q ht
    rw [List.take_succ, hyc]
    refine TDs.append (TDs.map key _ _ t2) (.cons (.tup (by rw [upd_ne nDt]; exact upd_same) (.cons (.int _) (.cons (td_oI _) (.cons (.str _) .nil)))) .nil)
  · rintro H2 ⟨s2, xs, h2, t2⟩
    rw [List.take_of_length_le (by simp)] at t2
    have N2 := N.same s2
    have P2 := PNn.same s2
    refine ⟨_, rfl, sw, _, _, rfl, P2.sw.1, rfl, _, rfl, L, sw, ho, Ap, ac, al, rfl, P2, hlen, ?_⟩
    rintro v H3 ⟨s3, l, ys, rfl, hl, hl3, ty⟩
    have h3 := s3 _ _ h2
    have t3 := t2.same s3
    have N3 := N2.same s3
    have P3 := P2.same s3
    rw [call_data ec] at ty
    refine ⟨_, rfl, _, _, _, _, true, rfl, .ty "list", .base (.lst hl3), kit_ty (by decide +kernel), _, rfl, iteF ?_⟩
    refine ⟨_, rfl, _, rfl, _, _, .lst (SqL.of hl3) (TDs.dp _ _ ty), .lst (SqL.of h3) (TDs.dp _ _ t3), shaped_list fine_calls, shaped_list fine_calls, ?_⟩
    rw [ne_same (shaped_list fine_calls)]
    refine ⟨_, rfl, iteF ?_⟩
    refine ⟨_, rfl, _, _, _, _, _, rfl, P3.sw.1, T.cl_Switch, T.na_Switch_book, rfl, Ap.bk, _, _, rfl, P3.bk.1, rfl, _, rfl, Ap.bk, _, _, _, rfl, P3.bk.1, P3.bl.1, fun l2 hl2 => ?_⟩
    have s4 := same_new (o := .lst (al.map fun x => V.ref x.1)) hl2
    have N4 := N3.same s4
    have P4 := P3.same s4
    have tl : TDs (upd H3 l2 (.lst (al.map fun x => V.ref x.1))) (al.map fun x => V.ref x.1) (al.map fun x => lineD x.2) := td_lines P4.lines
    rw [line_data el] at tl
    refine ⟨_, rfl, _, _, rfl, dgLines N4.wd.1, _, _, .lst (SqL.of upd_same) (TDs.dp _ _ tl), .lst (SqL.of N4.ll.1) (TDs.dp _ _ (td_lines N4.lines)), shaped_list fine_lines, shaped_list fine_lines, ?_⟩
    rw [ne_same (shaped_list fine_lines)]
    refine ⟨_, rfl, iteF ?_⟩
    have nl2 : l ≠ l2 := ne_of_none hl3 hl2
    refine ⟨_, rfl, .inl ⟨rfl, _, SqL.of (upd_old hl3 hl2)⟩, l, ys, _, rfl, rfl, upd_old hl3 hl2, small1000 (by rw [ty.length, List.length_map]; exact hlen2), ?_⟩
    have s5 : Same H2 (upd (upd H3 l2 (.lst (al.map fun x => V.ref x.1))) l (.lst (ys ++ [.non]))) := same_mut (s3.trans s4) hl
    generalize upd (upd H3 l2 (.lst (al.map fun x => V.ref x.1))) l (.lst (ys ++ [.non])) = H5 at s5 ⊢
    have P5 := P2.same s5
    refine ⟨_, rfl, sw, _, _, rfl, P5.sw.1, rfl, _, rfl, L, sw, ho, Ap, ac, al, rfl, P5, hlen, ?_⟩
    rintro v H6 ⟨s6, l6, ys6, rfl, hl6, hl63, ty6⟩
    rw [call_data ec] at ty6
    have s26 := s5.trans s6
    refine ⟨_, rfl, _, _, .lst (SqL.of hl63) (TDs.dp _ _ ty6), .lst (SqL.of (s26 _ _ h2)) (TDs.dp _ _ (t2.same s26)), shaped_list fine_calls, shaped_list fine_calls, ?_⟩
    rw [ne_same (shaped_list fine_calls)]
    refine ⟨_, rfl, iteF ?_⟩
    have N6 := N2.same s26
    have hr : (nums.map V.str).length ≤ 1000 := by rw [List.length_map]; exact hnl
    refine ⟨_, rfl, _, _, rfl, dgNumbers N6.wd.1, _, _, rfl, .inl (SqL.of N6.nl.1), _, rfl, ?_, ?_, for_range (lo := 0) (n := (nums.map V.str).length) (fun i σ H7 => Same H H7 ∧ ∃ u v w x : Option V, σ = [some (.ref sw), some (.ref wd), some (.ref D), u, v, w, x]) ⟨s2.trans s26, _, _, _, _, rfl⟩ ?_ ?_⟩
    · omega
    · omega
    · rintro i σ H7 hi ⟨s7, u, v, w, x, rfl⟩
      have N7 := N.same s7
      have P7 := PNn.same s7
      have ef : (findA ac (0 + (i : Int))).map (·.2) = (findA wc (0 + (i : Int))).map (·.2) := by rw [findA_snd, findA_snd, ec]
      refine ⟨_, rfl, _, _, rfl, dgCalls N7.wd.1, _, rfl, _, _, rfl, L, wd, B, nums, fr, wc, wl, _, rfl, rfl, N7, ?_⟩
      refine ⟨_, rfl, sw, _, _, rfl, P7.sw.1, rfl, _, rfl, _, _, rfl, L, sw, ho, Ap, ac, al, _, rfl, rfl, P7, fun e1 => ?_, fun z e1 H8 t s8 ht => ?_⟩
      · have e2 : findA wc (0 + (i : Int)) = none := by
          rw [e1] at ef
          cases e2 : findA wc (0 + (i : Int)) with
          | none => rfl
          | some y => rw [e2] at ef; cases ef
        rw [e2]
        refine ⟨_, rfl, rfl, _, rfl, iteT ⟨_, rfl, rfl, _, rfl, iteF ⟨_, rfl, rfl, _, rfl, iteF ?_⟩⟩⟩
        refine ⟨_, rfl, sw, _, _, rfl, (P7).sw.1, rfl, _, rfl, _, _, rfl, L, sw, ho, Ap, ac, al, _, rfl, rfl, P7, ?_⟩
        refine ⟨_, rfl, _, _, _, _, true, rfl, .ty "bool", .base (.bl _), kit_ty (by decide +kernel), _, rfl, iteF ?_⟩
        refine ⟨_, rfl, _, rfl, _, _, rfl, dgCalls (N7).wd.1, _, rfl, _, _, rfl, L, wd, B, nums, fr, wc, wl, _, rfl, rfl, N7, ?_⟩
        rw [ec]
        refine ⟨rfl, _, rfl, ?_⟩
        rw [decide_eq_true rfl]
        refine iteF ?_
        exact ⟨s7, _, _, _, _, rfl⟩
      · obtain ⟨y, e2, e3⟩ : ∃ y, findA wc (0 + (i : Int)) = some y ∧ z.2 = y.2 := by
          rw [e1] at ef
          cases e2 : findA wc (0 + (i : Int)) with
          | none => rw [e2] at ef; cases ef
          | some y => rw [e2] at ef; exact ⟨y, rfl, Option.some.inj ef⟩
        rw [e2]
        rw [e3] at ht
        have N8 := N7.same s8
        have P8 := P7.same s8
        have hc := (N8.calls y (findA_mem e2)).1
        refine ⟨_, rfl, rfl, _, rfl, iteF ⟨_, rfl, rfl, _, rfl, iteT ⟨_, rfl, _, rfl, _, _, rfl, dgCaller hc, _, rfl, _, _, rfl, dgCalled hc, _, rfl, _, _, rfl, dgState hc, by show 3 ≤ sizeLine; decide, fun t2 ht2 => ?_⟩⟩⟩
        have ht3 : TD (upd H8 t2 (.tup [.int y.2.caller, oI y.2.called, .str y.2.st.s])) (.ref t2) (callD y.2) := .tup upd_same (.cons (.int _) (.cons (td_oI _) (.cons (.str _) .nil)))
        refine ⟨_, _, TD.dp _ _ (ht.same (same_new ht2)), TD.dp _ _ ht3, shaped_fine (fine_call _), shaped_fine (fine_call _), ?_⟩
        rw [ne_same (shaped_fine (fine_call _))]
        refine ⟨_, rfl, iteF ?_⟩
        refine ⟨_, rfl, sw, _, _, rfl, (P8.same (same_new ht2)).sw.1, rfl, _, rfl, _, _, rfl, L, sw, ho, Ap, ac, al, _, rfl, rfl, P8.same (same_new ht2), ?_⟩
        refine ⟨_, rfl, _, _, _, _, true, rfl, .ty "bool", .base (.bl _), kit_ty (by decide +kernel), _, rfl, iteF ?_⟩
        refine ⟨_, rfl, _, rfl, _, _, rfl, dgCalls (N8.same (same_new ht2)).wd.1, _, rfl, _, _, rfl, L, wd, B, nums, fr, wc, wl, _, rfl, rfl, N8.same (same_new ht2), ?_⟩
        rw [ec]
        refine ⟨rfl, _, rfl, ?_⟩
        rw [decide_eq_true rfl]
        refine iteF ?_
        exact ⟨(s7.trans s8).trans (same_new ht2), _, _, _, _, rfl⟩
    · rintro σ H7 ⟨s7, u, v, w, x, rfl⟩
      exact k _ s7
end
end Mob

set_option Elab.async false
set_option linter.all false
set_option maxRecDepth 100000
set_option maxHeartbeats 4000000
namespace Mob
open PySem PySem.Spec PyProof.Rows L2
section
variable {P : Program} {w : World} {K : PySem.W.Frag} {mg : Str → Option Value} {base : Heap}
/-! ### the law's home -/
def kdAt : Nat → Kd
  | 0 => .al
  | 1 => .bu
  | 2 => .un
  | _ => .ur
theorem kv_put (f : Fct) (x : Option Str) : ∀ j : Nat, j < 4 → putK ((numKvs f).take j) (Sum.inr (kdAt j).s) (oS x) = (numKvs (f.setFw (kdAt j) x)).take (j + 1)
  | 0, _ => rfl
  | 1, _ => rfl
  | 2, _ => rfl
  | 3, _ => rfl
theorem kv_put2 (f : Fct) (x : Option Str) : ∀ j : Nat, j < 4 → putK ((numKvs f).take (j + 1)) (Sum.inr (kdAt j).s) (oS x) = (numKvs (f.setFw (kdAt j) x)).take (j + 1)
  | 0, _ => rfl
  | 1, _ => rfl
  | 2, _ => rfl
  | 3, _ => rfl
theorem kv_get (f : Fct) : ∀ j : Nat, j < 4 → valV ((numKvs f).take (j + 1)) (Sum.inr (kdAt j).s) = some (oS (f.fw (kdAt j)))
  | 0, _ => rfl
  | 1, _ => rfl
  | 2, _ => rfl
  | 3, _ => rfl
theorem kv_at : ∀ j : Nat, ∀ x : V, ([.str "always", .str "busy", .str "unanswered", .str "unreachable"] : List V)[j]? = some x → j < 4 ∧ x = .str (kdAt j).s
  | 0, _, h => ⟨by decide, by cases h; rfl⟩
  | 1, _, h => ⟨by decide, by cases h; rfl⟩
  | 2, _, h => ⟨by decide, by cases h; rfl⟩
  | 3, _, h => ⟨by decide, by cases h; rfl⟩
  | _ + 4, _, h => by cases h
theorem area_put (f : Fct) (v : V) : putK ((numKvs f).take 4) (Sum.inr "area") v = numKvs f ++ [((Sum.inr "area" : Key), v)] := rfl
theorem ixOf_none {l : List Str} {x : Str} (h : ∀ y ∈ l, y ≠ x) : ixOf l x = none := by
  unfold ixOf
  rw [List.findIdx?_eq_none_iff]
  intro y hy
  simp [h y hy]
def dgS (i : Nat) : Str := Str.ofString (toString (((1000000 + i : Nat)) : Int))
theorem dgS_ne {i j : Nat} (hi : i < 8) (hj : j < 8) (h : i ≠ j) : dgS i ≠ dgS j := fun e => by
  have a := last_num (1000000 + i)
  have b := last_num (1000000 + j)
  unfold dgS at e
  rw [e, b] at a
  have := Option.some.inj a
  omega
/-- the register and the law's lists while they are filled -/
structure HW (K : PySem.W.Frag) (H0 : Hp) (L : Lb) (H : Hp) (ho : Addr) (Ah : HA) (ps : List PRec) (nums : List Str) (D fl : Addr) (fr : List (Addr × Fct)) : Prop where
  same : ∀ b o, H0 b = some o → H b = some o ∧ L b = 100
  hm : HM K L H ho Ah ps
  nl : At L H 12 D (.lst (nums.map V.str))
  fl : At L H 13 fl (.lst (fr.map fun x => V.ref x.1))
  facts : ∀ x ∈ fr, At L H 14 x.1 (.dK (factKvs x.2))
  ndf : (fr.map (·.1)).Nodup
section
variable {K : PySem.W.Frag} {H0 H H' : Hp} {L L' : Lb} {ho : Addr} {Ah : HA} {ps ps' : List PRec} {nums : List Str} {D fl d : Addr} {fr : List (Addr × Fct)}
theorem HW.sm (W : HW K H0 L H ho Ah ps nums D fl fr) : Same H0 H := fun b o h => (W.same b o h).1
theorem HW.home (W : HW K H0 L H ho Ah ps nums D fl fr) (s : Step S14 L H L' H') (M : HM K L' H' ho Ah ps') : HW K H0 L' H' ho Ah ps' nums D fl fr where
  same := fun b o h => by
    obtain ⟨a, c⟩ := W.same b o h
    exact ⟨s.keep b o a (by rw [c]; intro z; exact absurd z.2 (by decide)), by rw [s.lab b o a, c]⟩
  hm := M
  nl := W.nl.keep s fun z => absurd z.2 (by decide)
  fl := W.fl.keep s fun z => absurd z.2 (by decide)
  facts := fun x hx => (W.facts x hx).keep s fun z => absurd z.2 (by decide)
  ndf := W.ndf
theorem HW.ext (W : HW K H0 L H ho Ah ps nums D fl fr) (s : Same H H') : HW K H0 L H' ho Ah ps nums D fl fr := W.home (Step.same s) (W.hm.same s)
theorem HW.fresh (W : HW K H0 L H ho Ah ps nums D fl fr) {o : HO} {k : Nat} (hd : H d = none) : HW K H0 (setL L d k) (upd H d o) ho Ah ps nums D fl fr :=
  W.home ((Step.relab hd).trans (Step.alloc hd)) (W.hm.keep (S := fun _ => False) ((Step.relab hd).trans (Step.alloc hd)) fun _ _ _ z => z)
theorem HW.fact (W : HW K H0 L H ho Ah ps nums D fl fr) {o o' : HO} (hd : At L H 14 d o) (ht : ∀ xs, o ≠ .tup xs) (hn : d ∉ fr.map (·.1)) : HW K H0 L (upd H d o') ho Ah ps nums D fl fr where
  same := fun b u h => by
    obtain ⟨a, c⟩ := W.same b u h
    exact ⟨upd_off a fun z => by rw [z, hd.2] at c; exact absurd c (by decide), c⟩
  hm := W.hm.keep (S := fun n => n = 14) (Step.write hd.1 ht hd.2) fun k a b c => by omega
  nl := W.nl.off hd.2 (by decide)
  fl := W.fl.off hd.2 (by decide)
  facts := fun x hx => (W.facts x hx).offA fun z => hn (List.mem_map.mpr ⟨x, hx, z⟩)
  ndf := W.ndf
theorem HW.push (W : HW K H0 L H ho Ah ps nums D fl fr) {f : Fct} (hd : At L H 14 d (.dK (factKvs f))) (hn : d ∉ fr.map (·.1)) : HW K H0 L (upd H fl (.lst ((fr.map fun x => V.ref x.1) ++ [.ref d]))) ho Ah ps nums D fl (fr ++ [(d, f)]) where
  same := fun b u h => by
    obtain ⟨a, c⟩ := W.same b u h
    exact ⟨upd_off a fun z => by rw [z, W.fl.2] at c; exact absurd c (by decide), c⟩
  hm := W.hm.keep (S := fun n => n = 13) (Step.write W.fl.1 (by intro _ z; cases z) W.fl.2) fun k a b c => by omega
  nl := W.nl.off W.fl.2 (by decide)
  fl := ⟨by rw [List.map_append]; exact upd_same, W.fl.2⟩
  facts := fun x hx => by
    rcases List.mem_append.mp hx with q | q
    · exact (W.facts x q).off W.fl.2 (by decide)
    · rw [List.mem_singleton.mp q]
      exact hd.off W.fl.2 (by decide)
  ndf := by
    rw [List.map_append, List.nodup_append]
    refine ⟨W.ndf, by simp, fun a ha b hb => ?_⟩
    rw [List.mem_singleton.mp hb]
    intro z
    rw [z] at ha
    exact hn ha
end
theorem getD_app {fs : List Fct} {f : Fct} {i : Nat} : i < fs.length → (fs ++ [f]).getD i fct0 = fs.getD i fct0 := fun h => by
  rw [List.getD_eq_getElem?_getD, List.getD_eq_getElem?_getD, List.getElem?_append_left h]
theorem Says.push {ps : List PRec} {fs : List Fct} (h : Says ps ⟨ps.map (·.num), fs⟩) {x : PRec} {f : Fct} (ea : x.ar = oI f.ar) (ek : x.kvs = numKvs f) : Says (ps ++ [x]) ⟨(ps ++ [x]).map (·.num), fs ++ [f]⟩ := by
  have hl : fs.length = ps.length := h.len
  refine ⟨rfl, by show (fs ++ [f]).length = _; simp [hl], fun j z hz => ?_⟩
  by_cases q : j < ps.length
  · rw [List.getElem?_append_left q] at hz
    show _ = oI ((fs ++ [f]).getD j fct0).ar ∧ _ = numKvs ((fs ++ [f]).getD j fct0)
    rw [getD_app (by omega)]
    exact h.ok j z hz
  · rw [List.getElem?_append_right (by omega)] at hz
    have hj : j - ps.length = 0 := by
      have := (List.getElem?_eq_some_iff.mp hz).1
      simp at this
      omega
    rw [hj] at hz
    cases hz
    have e : (fs ++ [f]).getD j fct0 = f := by
      rw [List.getD_eq_getElem?_getD, List.getElem?_append_right (by omega), show j - fs.length = 0 by omega]
      rfl
    show _ = oI ((fs ++ [f]).getD j fct0).ar ∧ _ = numKvs ((fs ++ [f]).getD j fct0)
    rw [e]
    exact ⟨ea, ek⟩
theorem set_last {α : Type} {ps : List α} {x y : α} : (ps ++ [x]).set ps.length y = ps ++ [y] := by simp
theorem get_last {α : Type} {ps : List α} {x : α} : (ps ++ [x])[ps.length]? = some x := by simp
def spHome (K : PySem.W.Frag) : Sp := sp2 fun a b H Q => ∃ (sa : Addr) (ns : List Int) (n : Nat), a = .ref sa ∧ b = .int (n : Int) ∧ 1 ≤ n ∧ n ≤ 8 ∧ SqL K H sa (ns.map V.int) ∧
  ∀ (L' : Lb) (H' : Hp) (t ho : Addr) (Ah : HA) (ps : List PRec) (nums : List Str) (D fl : Addr) (fr : List (Addr × Fct)), HW K H L' H' ho Ah ps nums D fl fr → Says ps ⟨nums, fr.map (·.2)⟩ → nums.length = n → fr.length = n → (∀ x ∈ nums, PyData.canLay0 (.str x) = true) →
    H' t = some (.tup [.ref ho, .ref D, .ref fl]) → Q (.ref t) H'
theorem setFw_twice (f : Fct) (k : Kd) (x y : Option Str) : (f.setFw k x).setFw k y = f.setFw k y := by cases k <;> rfl
theorem kv_len (f : Fct) (j : Nat) : ((numKvs f).take j).length < sizeLine := by
  rw [List.length_take]
  exact Nat.lt_of_le_of_lt (show min j 4 ≤ 4 by omega) (by decide)
theorem ok_law_home (T : Hd K mg) : OkD P w K mg base d_law_home 4 P_law_home (spHome K) := by
  obtain ⟨fd, F⟩ := T.says.def_ 45 (d := d_law_home) rfl
  obtain ⟨_, F_Home_init, b_Home_init, G_Home_init⟩ := ok_Home_init (P := P) (w := w) (base := base) T
  obtain ⟨_, F_law_number, b_law_number, G_law_number⟩ := ok_law_number (P := P) (w := w) (base := base) T
  obtain ⟨_, F_Home_add, b_Home_add, G_Home_add⟩ := ok_Home_add (P := P) (w := w) (base := base) T
  obtain ⟨_, F_law_cell, b_law_cell, G_law_cell⟩ := ok_law_cell (P := P) (w := w) (base := base) T
  obtain ⟨_, F_law_pick, b_law_pick, G_law_pick⟩ := ok_law_pick (P := P) (w := w) (base := base) T
  obtain ⟨_, F_Home_set_forward, b_Home_set_forward, G_Home_set_forward⟩ := ok_Home_set_forward (P := P) (w := w) (base := base) T
  obtain ⟨_, F_Home_set_area, b_Home_set_area, G_Home_set_area⟩ := ok_Home_set_area (P := P) (w := w) (base := base) T
  refine ⟨fd, F, F.bindsN (ps := P_law_home) (fun _ _ _ _ _ _ us hl => match us, hl with | [_, _], _ => rfl), F.ok sc_law_home (fun vs H Q E h => sp2_len h) (fun cdv A outer s H vs Q E hr h => ?_)⟩
  have hu := hu_of hr
  obtain ⟨a, b, rfl, sa, ns, n, rfl, rfl, n1, n8, hs, k⟩ := h
  refine ⟨_, PSs.nox (pss_cons (ps_set (i := 2) sc_law_home.nd rfl (Or.inl rfl) (pe_make0 T.mk_Home G_Home_init (hr.mono (by decide)) rfl T.gl_Home b_Home_init .nil pass0)) (pss_cons (ps_setLc (i := 3) (own := [("_law_k", 5)]) (g := gName 5) (tt := tYes) rfl sc_law_home.nd rfl rfl (sw_true rfl rfl rfl (by decide +kernel)) (pi_range1 rfl T.fr_range (pa_cons (pv 1) pa_nil)) (blkOk_by (own := [("_law_k", 5)]) (N := N_law_home) (sc := defScope s_law_home) (by decide +kernel)) (fun _ _ _ _ _ => pg_name (i := 5) sc_law_home.nd rfl (Or.inl rfl)) (fun _ _ _ _ _ => pts_nil) (fun _ _ _ _ _ => (pe_call G_law_number (hr.mono (by decide)) (by rfl) T.gl_law_number F_law_number.kp b_law_number .nil pass0 (pa_cons (pv 0) (pa_cons (pv 5) pa_nil))))) (pss_cons (ps_set (i := 4) sc_law_home.nd rfl (Or.inl rfl) (pe_lst pa_nil)) (pss_cons (ps_for PassesOwn.never rfl (pi_range1 rfl T.fr_range (pa_cons (pv 1) pa_nil)) (pg_name (i := 5) sc_law_home.nd rfl (Or.inl rfl)) (pss_cons (ps_expr (pe_meth (pv 2) T.cl_Home T.me_Home_add G_Home_add (hr.mono (by decide)) b_Home_add .nil pass0 (pa_cons (pe_callTy call_str_int (by rfl) T.fr_str (by decide +kernel) (pa_cons (pe_op op_add pe_int (pv 5)) pa_nil)) (pa_cons (pe_ix ix_list (pv 3) (pv 5) (fun _ _ => rfl)) pa_nil)))) (pss_cons (ps_set (i := 6) sc_law_home.nd rfl (Or.inl rfl) (pe_call G_law_cell (hr.mono (by decide)) (by rfl) T.gl_law_cell F_law_cell.kp b_law_cell .nil pass0 (pa_cons (pv 0) (pa_cons (pe_op op_add (pe_op op_mul pe_int (pv 5)) pe_int) pa_nil)))) (pss_cons (ps_set (i := 7) sc_law_home.nd rfl (Or.inl rfl) pe_dnewK) (pss_cons (ps_for PassesOwn.never rfl (pi_list (pe_lst (pa_cons pe_str (pa_cons pe_str (pa_cons pe_str (pa_cons pe_str pa_nil)))))) (pg_name (i := 8) sc_law_home.nd rfl (Or.inl rfl)) (pss_cons (ps_dput hu (pv 7) (pv 8) (pe_call G_law_pick (hr.mono (by decide)) (by rfl) T.gl_law_pick F_law_pick.kp b_law_pick .nil pass0 (pa_cons (pv 3) (pa_cons (pe_op op_mod (pv 6) (pe_op op_add (pv 1) pe_int)) pa_nil))) rfl) (pss_cons (ps_if ((pw_and (pt_cmpR op_eq (pv 8) pe_str (nomark _)) (pw_and1 (pt_cmpR op_gt (pe_op op_mod (pv 6) pe_int) pe_int (nomark _))))).pt (pss_one (ps_dput hu (pv 7) (pv 8) pe_non rfl)) pss_nil) (pss_cons (ps_expr (pe_meth (pv 2) T.cl_Home T.me_Home_set_forward G_Home_set_forward (hr.mono (by decide)) b_Home_set_forward .nil pass0 (pa_cons (pv 5) (pa_cons (pv 8) (pa_cons (pe_dget hu (pv 7) (pv 8) (fun _ _ => rfl)) pa_nil))))) (pss_one (ps_set (i := 6) sc_law_home.nd rfl (Or.inl rfl) (pe_op op_fdiv (pv 6) (pe_op op_add (pv 1) pe_int)))))))) (pss_cons (ps_dput hu (pv 7) pe_str (pe_op op_mod (pv 6) pe_int) rfl) (pss_cons (ps_if (pt_cmpR op_eq (pe_op op_mod (pv 6) pe_int) pe_int (nomark _)) (pss_one (ps_dput hu (pv 7) pe_str pe_non rfl)) pss_nil) (pss_cons (ps_if (pt_cmpR op_notN (pe_dget hu (pv 7) pe_str (fun _ _ => rfl)) pe_non (nomark _)) (pss_one (ps_expr (pe_meth (pv 2) T.cl_Home T.me_Home_set_area G_Home_set_area (hr.mono (by decide)) b_Home_set_area .nil pass0 (pa_cons (pv 5) (pa_cons (pe_dget hu (pv 7) pe_str (fun _ _ => rfl)) pa_nil))))) pss_nil) (pss_one (ps_expr (pe_bm PySem.F.plainAttrs_list PySem.F.slot_list_append PySem.F.type_list_append mt_append (pv 4) (pa_cons (pv 7) pa_nil)))))))))))) (pss_one (ps_ret (pe_tup (pa_cons (pv 2) (pa_cons (pv 3) (pa_cons (pv 4) pa_nil)))))))))), ?_⟩
  intro ho dh nho ndh nex
  refine ⟨_, rfl, ho, dh, rfl, upd_same, fun H2 hl hhl hho hhl' keep => ⟨rfl, ?_⟩⟩
  have s2 : Same H H2 := Same.made nho ndh keep
  have hH := fun b (o : HO) (e : H b = some o) => (ne_of_none e nho : b ≠ ho)
  refine ⟨_, rfl, (n : Int), rfl, by omega, by omega, fun D hD => lc_range (lo := 0) (n := n) (fun i H3 => Same H2 H3 ∧ ∃ nums : List Str, nums.length = i ∧ H3 D = some (.lst (nums.map V.str)) ∧ ∀ j x, nums[j]? = some x → NumP x (j + 1)) ⟨same_new hD, [], rfl, upd_same, by simp⟩ ?_ ?_⟩
  · rintro i H3 hi ⟨s3, nums, hnl, h3, hP⟩
    refine ⟨rfl, ?_⟩
    refine ⟨_, rfl, _, rfl, _, _, rfl, sa, ns, i, rfl, by show V.int (0 + (i : Int)) = _; rw [Int.zero_add], by omega, (s2.trans s3).seq hs, fun x hx => ?_⟩
    refine ⟨nums.map V.str, h3, ?_, same_mut s3 hD, nums ++ [x], ?_, ?_, ?_⟩
    · rw [List.length_map]
      exact small1000 (by omega)
    · rw [List.length_append, hnl]; rfl
    · rw [upd_same, List.map_append]; rfl
    · intro j y hy
      by_cases q : j < nums.length
      · rw [List.getElem?_append_left q] at hy
        exact hP j y hy
      · rw [List.getElem?_append_right (by omega)] at hy
        have hj : j - nums.length = 0 := by
          have := (List.getElem?_eq_some_iff.mp hy).1
          simp at this
          omega
        rw [hj] at hy
        cases hy
        have : j = i := by omega
        rw [this]
        exact hx
  · rintro H3 ⟨s3, nums, hnl, h3, hP⟩
    refine ⟨Nat.zero_le _, fun fl hfl => ?_⟩
    have nfD : D ≠ fl := ne_of_none h3 hfl
    have hho3 := s3 _ _ hho
    have hhl3 := s3 _ _ hhl'
    have nhh : ho ≠ hl := ne_of hho hhl' (by intro z; cases z)
    have nhD : ho ≠ D := ne_of_none hho hD
    have nlD : hl ≠ D := ne_of_none hhl' hD
    have nhf : ho ≠ fl := ne_of_none hho3 hfl
    have nlf : hl ≠ fl := ne_of_none hhl3 hfl
    have W0 : HW K H (setL (setL (setL (setL (fun _ => 100) ho 1) hl 2) D 12) fl 13) (upd H3 fl (.lst [])) ho ⟨dh, hl⟩ [] nums D fl [] := by
      refine ⟨fun b o e => ⟨upd_old ((s2.trans s3) _ _ e) hfl, ?_⟩, ⟨⟨upd_old hho3 hfl, ?_⟩, ⟨upd_old hhl3 hfl, ?_⟩, by simp, by simp, by simp, by simp⟩, ⟨upd_old h3 hfl, ?_⟩, ⟨upd_same, setL_same⟩, by simp, by simp⟩
      · rw [setL_ne (ne_of_none ((s2.trans s3) _ _ e) hfl), setL_ne (ne_of_none (s2 _ _ e) hD), setL_ne (ne_of_none e (upd_free (upd_free hhl))), setL_ne (hH _ _ e)]
      · rw [setL_ne nhf, setL_ne nhD, setL_ne nhh, setL_same]
      · rw [setL_ne nlf, setL_ne nlD, setL_same]
      · rw [setL_ne nfD, setL_same]
    have numD : ∀ {i j : Nat} {x y : Str}, nums[i]? = some x → nums[j]? = some y → i ≠ j → x ≠ y := fun {i j x y} a b ij e => by
      have p := (hP i x a).1
      have q := (hP j y b).1
      rw [e, q] at p
      have := Option.some.inj p
      omega
    refine ⟨_, rfl, (n : Int), rfl, by omega, by omega, for_range (lo := 0) (n := n) (fun i σ H5 => ∃ (L5 : Lb) (ps : List PRec) (fr : List (Addr × Fct)) (u v w x : Option V), σ = [some (.ref sa), some (.int (n : Int)), some (.ref ho), some (.ref D), some (.ref fl), u, v, w, x] ∧
      HW K H L5 H5 ho ⟨dh, hl⟩ ps nums D fl fr ∧ ps.length = i ∧ fr.length = i ∧ Says ps ⟨ps.map (·.num), fr.map (·.2)⟩ ∧ ∀ j x, ps[j]? = some x → x.dg = dgS j ∧ nums[j]? = some x.num) ⟨_, [], [], _, _, _, _, rfl, W0, rfl, rfl, ⟨rfl, rfl, by simp⟩, by simp⟩ ?_ ?_⟩
    · rintro i σ H5 hi ⟨L5, ps, fr, u, v, w, x, rfl, W5, hpl, hfl5, Sy, hps⟩
      rw [show (0 : Int) + (i : Int) = (i : Int) from Int.zero_add _]
      obtain ⟨num, hnum⟩ : ∃ num, nums[i]? = some num := ⟨nums[i]'(by omega), List.getElem?_eq_getElem _⟩
      have edg : (Str.ofString (toString ((1000000 : Int) + (i : Int)))) = dgS i := by unfold dgS; rw [show ((1000000 + i : Nat) : Int) = 1000000 + (i : Int) by omega]
      have i1 : ixOf (ps.map PRec.dg) (dgS i) = none := ixOf_none fun y hy => by
        obtain ⟨z, hz, rfl⟩ := List.mem_map.mp hy
        obtain ⟨j, hj⟩ := List.mem_iff_getElem?.mp hz
        have hjl := (List.getElem?_eq_some_iff.mp hj).1
        rw [(hps j z hj).1]
        exact dgS_ne (by omega) (by omega) (by omega)
      have i2 : ixOf (ps.map PRec.num) num = none := ixOf_none fun y hy => by
        obtain ⟨z, hz, rfl⟩ := List.mem_map.mp hy
        obtain ⟨j, hj⟩ := List.mem_iff_getElem?.mp hz
        have hjl := (List.getElem?_eq_some_iff.mp hj).1
        exact numD (hps j z hj).2 hnum (by omega)
      refine ⟨_, rfl, ho, _, _, rfl, W5.hm.ho.1, rfl, _, rfl, _, _, rfl, rfl, _, rfl, ?_, _, rfl, _, rfl, D, _, _, _, rfl, rfl, SqL.of W5.nl.1, atI_nat (by rw [List.getElem?_map, hnum]; rfl), _, _, _, rfl, L5, ho, ⟨dh, hl⟩, ps, dgS i, num, rfl, congrArg V.str edg, rfl, W5.hm, by omega, i1, i2, fun L6 H6 x0 v0 st6 M6 e1 e2 e3 e4 => ?_⟩
      · rw [show ((1000000 : Int) + (i : Int)).natAbs = 1000000 + i by omega]
        exact (Nat.log2_lt (by omega)).mpr (Nat.lt_of_lt_of_le (show 1000000 + i < 2 ^ 20 by omega) (Nat.pow_le_pow_right (by decide) (by decide)))
      have W6 := W5.home st6 M6
      refine ⟨_, rfl, _, rfl, _, _, rfl, rfl, .inl ⟨by decide, by decide⟩, _, _, rfl, rfl, _, _, rfl, sa, ns, 2 * i + 2, rfl, by show V.int (2 * (i : Int) + 2) = _; rw [show (2 * (i : Int) + 2) = ((2 * i + 2 : Nat) : Int) by omega], W6.sm.seq hs, fun c => ?_⟩
      refine fun d hd => ?_
      have W7 := W6.fresh (k := 14) (o := .dK []) hd
      have hd7 : At (setL L6 d 14) (upd H6 d (.dK [])) 14 d (.dK []) := ⟨upd_same, setL_same⟩
      have hdn : d ∉ fr.map (·.1) := fun z => by
        obtain ⟨y, hy, rfl⟩ := List.mem_map.mp z
        rw [(W6.facts y hy).1] at hd
        cases hd
      refine ⟨by show 4 ≤ sizeLine; decide, fun kl hkl => ?_⟩
      have W8 := W7.fresh (k := 0) (o := .lst [.str "always", .str "busy", .str "unanswered", .str "unreachable"]) hkl
      have hd8 := (hd7.relab (j := 0) hkl).new (o' := .lst [.str "always", .str "busy", .str "unanswered", .str "unreachable"]) hkl
      refine ⟨_, rfl, ⟨_, SqL.of upd_same⟩, for_list (K := K) (a := kl) (xs := [.str "always", .str "busy", .str "unanswered", .str "unreachable"]) (fun j σ H9 => ∃ (L9 : Lb) (f : Fct) (x : PRec) (c : Int) (v : Option V), σ = [some (.ref sa), some (.int (n : Int)), some (.ref ho), some (.ref D), some (.ref fl), some (.int (i : Int)), some (.int c), some (.ref d), v] ∧
        HW K H L9 H9 ho ⟨dh, hl⟩ (ps ++ [x]) nums D fl fr ∧ At L9 H9 14 d (.dK ((numKvs f).take j)) ∧ At L9 H9 0 kl (.lst [.str "always", .str "busy", .str "unanswered", .str "unreachable"]) ∧ x.dg = dgS i ∧ x.num = num ∧ x.ar = .non ∧ x.kvs = (numKvs f).take j)
        ⟨_, fct0, x0, c, _, rfl, W8, hd8, ⟨upd_same, setL_same⟩, e1, e2, e3, e4⟩ (fun j σ H9 _ h => by obtain ⟨_, _, _, _, _, _, _, _, q, _⟩ := h; exact SqL.of q.1) ?_ ?_⟩
      · rintro j x1 σ H9 hj ⟨L9, f, x, c, v, rfl, W9, hd9, hk9, a1, a2, a3, a4⟩
        obtain ⟨j4, rfl⟩ := kv_at j _ hj
        have d0 := Int.emod_nonneg c (show (n : Int) + 4 ≠ 0 by omega)
        obtain ⟨dg, hdg⟩ : ∃ dg : Nat, c % ((n : Int) + 4) = (dg : Int) := ⟨(c % ((n : Int) + 4)).toNat, by omega⟩
        refine ⟨_, rfl, _, rfl, _, rfl, _, _, rfl, rfl, _, _, rfl, rfl, by omega, _, _, rfl, D, nums, dg, rfl, congrArg V.int hdg, SqL.of W9.nl.1, ?_⟩
        refine ⟨_, rfl, _, rfl, _, _, rfl, DPut.k (k := Sum.inr (kdAt j).s) hd9.1 (kv_len f j), ?_⟩
        rw [kv_put f _ j j4]
        have W9' := W9.fact (o' := .dK ((numKvs (f.setFw (kdAt j) (pickS nums dg))).take (j + 1))) hd9 (by intro _ z; cases z) hdn
        have hd9' : At L9 (upd H9 d (.dK ((numKvs (f.setFw (kdAt j) (pickS nums dg))).take (j + 1)))) 14 d (.dK ((numKvs (f.setFw (kdAt j) (pickS nums dg))).take (j + 1))) := At.at hd9.2
        have hk9' := hk9.off (o' := .dK ((numKvs (f.setFw (kdAt j) (pickS nums dg))).take (j + 1))) hd9.2 (by decide)
        refine ⟨_, rfl, rfl, _, rfl, ?_⟩
        refine ite2 (fun _ => ?_) (fun _ => iteF ?_)
        · refine ⟨_, rfl, _, _, rfl, rfl, (by show (0 : Int) < 3; decide), _, _, rfl, rfl, _, rfl, ?_⟩
          refine ite2 (fun _ => ?_) (fun _ => ?_)
          · refine ⟨_, rfl, _, rfl, _, _, rfl, DPut.k (k := Sum.inr (kdAt j).s) hd9'.1 (kv_len _ _), ?_⟩
            have e0 := kv_put2 (f.setFw (kdAt j) (pickS nums dg)) none j j4
            rw [setFw_twice] at e0
            rw [show (V.non) = oS none from rfl, e0]
            have W9'' := W9'.fact (o' := .dK ((numKvs (f.setFw (kdAt j) none)).take (j + 1))) hd9' (by intro _ z; cases z) hdn
            have hd9'' : At L9 (upd (upd H9 d (.dK ((numKvs (f.setFw (kdAt j) (pickS nums dg))).take (j + 1)))) d (.dK ((numKvs (f.setFw (kdAt j) none)).take (j + 1)))) 14 d (.dK ((numKvs (f.setFw (kdAt j) none)).take (j + 1))) := At.at hd9'.2
            have hk9' := hk9'.off (o' := .dK ((numKvs (f.setFw (kdAt j) none)).take (j + 1))) hd9'.2 (by decide)
            -- W9'': the lists now, hd9'': the fact dict, none: the value kept
            have hg9 := DGet.k (k := Sum.inr (kdAt j).s) (hd9'').1
            rw [kv_get _ j j4, setFw_get] at hg9
            refine ⟨_, rfl, ho, _, _, rfl, (W9'').hm.ho.1, rfl, _, rfl, _, rfl, _, rfl, _, rfl, _, _, rfl, hg9, _, _, _, _, rfl, _, ho, ⟨dh, hl⟩, ps ++ [x], i, x, (kdAt j).s, rfl, rfl, rfl, (W9'').hm, by rw [← hpl]; exact get_last, by rw [a4]; exact Nat.le_trans (Nat.le_of_lt_succ (Nat.lt_succ_of_le (by rw [List.length_take]; exact (show min j 4 ≤ 4 by omega)))) (by decide), fun w9 H10 st10 M10 => ?_⟩
            rw [a4, kv_put _ _ j j4, ← hpl, set_last] at M10
            have W10 := (W9'').home st10 M10
            refine ⟨_, rfl, _, rfl, _, _, rfl, rfl, _, _, rfl, rfl, ⟨by omega, by omega⟩, ?_⟩
            refine ⟨_, f.setFw (kdAt j) none, _, _, _, rfl, W10, (hd9'').keep st10 fun z => absurd z.2 (by decide), (hk9').keep st10 fun z => absurd z.1 (by decide), a1, a2, a3, rfl⟩
          · skip
            -- W9': the lists now, hd9': the fact dict, (pickS nums dg): the value kept
            have hg9 := DGet.k (k := Sum.inr (kdAt j).s) (hd9').1
            rw [kv_get _ j j4, setFw_get] at hg9
            refine ⟨_, rfl, ho, _, _, rfl, (W9').hm.ho.1, rfl, _, rfl, _, rfl, _, rfl, _, rfl, _, _, rfl, hg9, _, _, _, _, rfl, _, ho, ⟨dh, hl⟩, ps ++ [x], i, x, (kdAt j).s, rfl, rfl, rfl, (W9').hm, by rw [← hpl]; exact get_last, by rw [a4]; exact Nat.le_trans (Nat.le_of_lt_succ (Nat.lt_succ_of_le (by rw [List.length_take]; exact (show min j 4 ≤ 4 by omega)))) (by decide), fun w9 H10 st10 M10 => ?_⟩
            rw [a4, kv_put _ _ j j4, ← hpl, set_last] at M10
            have W10 := (W9').home st10 M10
            refine ⟨_, rfl, _, rfl, _, _, rfl, rfl, _, _, rfl, rfl, ⟨by omega, by omega⟩, ?_⟩
            refine ⟨_, f.setFw (kdAt j) (pickS nums dg), _, _, _, rfl, W10, (hd9').keep st10 fun z => absurd z.2 (by decide), (hk9').keep st10 fun z => absurd z.1 (by decide), a1, a2, a3, rfl⟩
        · skip
          -- W9': the lists now, hd9': the fact dict, (pickS nums dg): the value kept
          have hg9 := DGet.k (k := Sum.inr (kdAt j).s) (hd9').1
          rw [kv_get _ j j4, setFw_get] at hg9
          refine ⟨_, rfl, ho, _, _, rfl, (W9').hm.ho.1, rfl, _, rfl, _, rfl, _, rfl, _, rfl, _, _, rfl, hg9, _, _, _, _, rfl, _, ho, ⟨dh, hl⟩, ps ++ [x], i, x, (kdAt j).s, rfl, rfl, rfl, (W9').hm, by rw [← hpl]; exact get_last, by rw [a4]; exact Nat.le_trans (Nat.le_of_lt_succ (Nat.lt_succ_of_le (by rw [List.length_take]; exact (show min j 4 ≤ 4 by omega)))) (by decide), fun w9 H10 st10 M10 => ?_⟩
          rw [a4, kv_put _ _ j j4, ← hpl, set_last] at M10
          have W10 := (W9').home st10 M10
          refine ⟨_, rfl, _, rfl, _, _, rfl, rfl, _, _, rfl, rfl, ⟨by omega, by omega⟩, ?_⟩
          refine ⟨_, f.setFw (kdAt j) (pickS nums dg), _, _, _, rfl, W10, (hd9').keep st10 fun z => absurd z.2 (by decide), (hk9').keep st10 fun z => absurd z.1 (by decide), a1, a2, a3, rfl⟩
      · rintro σ H9 ⟨L9, f, x, c, v, rfl, W9, hd9, hk9, a1, a2, a3, a4⟩
        have hd9 : At L9 H9 14 d (.dK (numKvs f)) := hd9
        have a4 : x.kvs = numKvs f := a4
        have dpA : ∀ {H : Hp} {kvs : List (Key × V)} {v : V}, H d = some (.dK kvs) → kvs.length < sizeLine → DPut H d (.str "area") v (upd H d (.dK (putK kvs (Sum.inr "area") v))) := fun h l => DPut.k (k := Sum.inr "area") h l
        refine ⟨_, rfl, _, _, rfl, rfl, (by show (0 : Int) < 5; decide), _, rfl, _, _, rfl, dpA hd9.1 (by show 4 < sizeLine; decide), ?_⟩
        have W9' := W9.fact (o' := .dK (factKvs { f with ar := some (c % 5) })) hd9 (by intro _ z; cases z) hdn
        have hd9' : At L9 (upd H9 d (.dK (factKvs { f with ar := some (c % 5) }))) 14 d (.dK (factKvs { f with ar := some (c % 5) })) := At.at hd9.2
        refine ⟨_, rfl, _, _, rfl, rfl, (by show (0 : Int) < 5; decide), rfl, _, rfl, ?_⟩
        refine ite2 (fun _ => ?_) (fun _ => ?_)
        · refine ⟨_, rfl, _, _, rfl, dpA hd9'.1 (by show 5 < sizeLine; decide), ?_⟩
          have W9'' := W9'.fact (o' := .dK (factKvs { f with ar := none })) hd9' (by intro _ z; cases z) hdn
          have hd9'' : At L9 (upd (upd H9 d (.dK (factKvs { f with ar := some (c % 5) }))) d (.dK (factKvs { f with ar := none }))) 14 d (.dK (factKvs { f with ar := none })) := At.at hd9'.2
          refine ⟨_, rfl, _, _, rfl, dgArea hd9''.1, rfl, _, rfl, iteF ?_⟩
          -- W9'': the lists now, hd9'': the fact dict, { f with ar := none }: the fact, a3: the area
          refine ⟨_, rfl, .inl ⟨rfl, _, SqL.of (W9'').fl.1⟩, _, rfl, fl, _, _, rfl, rfl, (W9'').fl.1, by rw [List.length_map]; exact small1000 (by omega), ?_⟩
          have W11 := (W9'').push (f := { f with ar := none }) hd9'' hdn
          refine ⟨_, _, fr ++ [(d, { f with ar := none })], _, _, _, _, rfl, W11, by simp [hpl], by simp [hfl5], ?_, fun j z hz => ?_⟩
          · rw [List.map_append (f := fun x : Addr × Fct => x.2)]
            exact Sy.push a3 a4
          by_cases q : j < ps.length
          · rw [List.getElem?_append_left q] at hz
            exact hps j z hz
          · rw [List.getElem?_append_right (by omega)] at hz
            have hj : j - ps.length = 0 := by
              have := (List.getElem?_eq_some_iff.mp hz).1
              simp at this
              omega
            rw [hj] at hz
            cases hz
            have : j = i := by omega
            rw [this]
            exact ⟨a1, by rw [hnum]; exact congrArg some a2.symm⟩
        · refine ⟨_, rfl, _, _, rfl, dgArea hd9'.1, rfl, _, rfl, iteT ?_⟩
          refine ⟨_, rfl, ho, _, _, rfl, W9'.hm.ho.1, rfl, _, rfl, _, rfl, _, _, rfl, dgArea hd9'.1, _, _, _, rfl, _, ho, ⟨dh, hl⟩, ps ++ [x], i, x, rfl, rfl, W9'.hm, by rw [← hpl]; exact get_last, fun H10 st10 M10 => ?_⟩
          rw [← hpl, set_last] at M10
          have W10 := W9'.home st10 M10
          have hd10 := hd9'.keep st10 fun z => absurd z.2 (by decide)
          -- W10: the lists now, hd10: the fact dict, { f with ar := some (c % 5) }: the fact, rfl: the area
          refine ⟨_, rfl, .inl ⟨rfl, _, SqL.of (W10).fl.1⟩, _, rfl, fl, _, _, rfl, rfl, (W10).fl.1, by rw [List.length_map]; exact small1000 (by omega), ?_⟩
          have W11 := (W10).push (f := { f with ar := some (c % 5) }) hd10 hdn
          refine ⟨_, _, fr ++ [(d, { f with ar := some (c % 5) })], _, _, _, _, rfl, W11, by simp [hpl], by simp [hfl5], ?_, fun j z hz => ?_⟩
          · rw [List.map_append (f := fun x : Addr × Fct => x.2)]
            exact Sy.push rfl a4
          by_cases q : j < ps.length
          · rw [List.getElem?_append_left q] at hz
            exact hps j z hz
          · rw [List.getElem?_append_right (by omega)] at hz
            have hj : j - ps.length = 0 := by
              have := (List.getElem?_eq_some_iff.mp hz).1
              simp at this
              omega
            rw [hj] at hz
            cases hz
            have : j = i := by omega
            rw [this]
            exact ⟨a1, by rw [hnum]; exact congrArg some a2.symm⟩
    · rintro σ H5 ⟨L5, ps, fr, u, v, w, x, rfl, W5, hpl, hfl5, Sy, hps⟩
      have en : ps.map (·.num) = nums := by
        refine List.ext_getElem? fun j => ?_
        rw [List.getElem?_map]
        cases e : ps[j]? with
        | some x => exact (hps j x e).2.symm
        | none =>
          have := List.getElem?_eq_none_iff.mp e
          exact (List.getElem?_eq_none_iff.mpr (by omega)).symm
      rw [en] at Sy
      refine ⟨_, rfl, _, rfl, _, rfl, by show 3 ≤ sizeLine; decide, fun t ht => ?_⟩
      refine k L5 _ t ho ⟨dh, hl⟩ ps nums D fl fr (W5.ext (same_new ht)) Sy hnl hfl5 (fun x hx => ?_) upd_same
      obtain ⟨j, hj⟩ := List.mem_iff_getElem?.mp hx
      exact (hP j x hj).2
end
end Mob

set_option Elab.async false
set_option linter.all false
set_option maxRecDepth 100000
set_option maxHeartbeats 4000000
namespace Mob
open PySem PySem.Spec PyProof.Rows L2
section
variable {P : Program} {w : World} {K : PySem.W.Frag} {mg : Str → Option Value} {base : Heap}
/-! ### the actions are data that can be compared -/
theorem fine_tup {ds : List PyData} (h : PyData.canLayAll0 ds = true) (g : PyData.depthAll ds ≤ 7) : FineD (.tuple ds) := ⟨h, by rw [PyData.depth]; omega⟩
theorem fine_w0 {z : Str} (h : PyData.canLay0 (.str z) = true) : PyData.canLay0 (.tuple [.str z]) = true := by
  show PyData.canLayAll0 [.str z] = true
  rw [PyData.canLayAll0, PyData.canLayAll0, h]; rfl
theorem fine_w1 {z : Str} {d : PyData} (h : PyData.canLay0 (.str z) = true) (g : d.canLay0 = true) : PyData.canLay0 (.tuple [.str z, d]) = true := by
  show PyData.canLayAll0 [.str z, d] = true
  rw [PyData.canLayAll0, PyData.canLayAll0, PyData.canLayAll0, h, g]; rfl
theorem fine_tell {p : Int} {m : PyData} (h : m.canLay0 = true) (g : m.depth ≤ 6) : FineD (tellD p m) := by
  have a : PyData.canLay0 (.str "tell") = true := by decide +kernel
  refine fine_tup ?_ ?_
  · rw [PyData.canLayAll0, PyData.canLayAll0, PyData.canLayAll0, PyData.canLayAll0, h, a]; rfl
  · simp only [PyData.depthAll, PyData.depth]; omega
theorem fine_rel {p : Int} : FineD (relD p) := ⟨fine_w1 (by decide +kernel) rfl, by show (1 : Nat) ≤ 8; decide⟩
theorem fine_page {p : Int} : FineD (pageD p) := ⟨fine_w1 (by decide +kernel) rfl, by show (1 : Nat) ≤ 8; decide⟩
theorem fine_unpage {p : Int} : FineD (unpageD p) := ⟨fine_w1 (by decide +kernel) rfl, by show (1 : Nat) ≤ 8; decide⟩
abbrev FineL (ds : List PyData) : Prop := ∀ d ∈ ds, FineD d
theorem fine_nil : FineL [] := by simp [FineL]
theorem fine_cons {d : PyData} {ds : List PyData} (h : FineD d) (g : FineL ds) : FineL (d :: ds) := fun x hx => by
  rcases List.mem_cons.mp hx with q | q
  · rw [q]; exact h
  · exact g x q
theorem fine_app {ds es : List PyData} (h : FineL ds) (g : FineL es) : FineL (ds ++ es) := fun x hx => by
  rcases List.mem_append.mp hx with q | q
  · exact h x q
  · exact g x q
theorem fine_refuse {p c : Int} : FineL (refuseD p c) := fine_cons (fine_tell (fine_w1 (by decide +kernel) rfl) (by show (1 : Nat) ≤ 6; decide)) (fine_cons fine_rel fine_nil)
theorem fine_start {E : Env0} {N : Net} {p : Int} {num : Str} {linked : List Int} : FineL (mStart E N p num linked).1 := by
  unfold mStart
  split
  · exact fine_refuse
  · split
    · exact fine_refuse
    · exact fine_cons (fine_tell (fine_w0 (by decide +kernel)) (by show (1 : Nat) ≤ 6; decide)) (fine_cons fine_page fine_nil)
theorem fine_answered {E : Env0} {N : Net} {p t : Int} (h : ∀ x ∈ E.nums, PyData.canLay0 (.str x) = true) : FineL (mAnswered E N p t).1 := by
  unfold mAnswered
  split
  · exact fine_nil
  · split
    · refine fine_cons (fine_tell (fine_w1 (by decide +kernel) ?_) (by show (1 : Nat) ≤ 6; decide)) fine_nil
      rw [List.getD_eq_getElem?_getD]
      cases e : E.nums[Int.toNat _]? with
      | none => decide +kernel
      | some x => exact h x (List.mem_of_getElem? e)
    · exact fine_nil
theorem fine_alerting {N : Net} {p : Int} : FineL (mAlerting N p).1 := by
  unfold mAlerting
  split
  · exact fine_nil
  · split
    · exact fine_cons (fine_tell (fine_w0 (by decide +kernel)) (by show (1 : Nat) ≤ 6; decide)) fine_nil
    · exact fine_nil
theorem fine_connect {N : Net} {p : Int} : FineL (mConnect N p).1 := by
  unfold mConnect
  split
  · exact fine_nil
  · split
    · exact fine_cons (fine_tell (fine_w0 (by decide +kernel)) (by show (1 : Nat) ≤ 6; decide)) (fine_cons (fine_tell (fine_w0 (by decide +kernel)) (by show (1 : Nat) ≤ 6; decide)) fine_nil)
    · exact fine_nil
theorem fine_connected {N : Net} {p t : Int} : FineL (mConnected N p t).1 := by
  unfold mConnected
  split
  · exact fine_nil
  · split <;> exact fine_nil
theorem flat_ints_fine : ∀ l : List Nat, ∀ f : Nat → Int, PyData.canLayAll0 (l.map fun k => PyData.int (f k)) = true ∧ PyData.depthAll (l.map fun k => PyData.int (f k)) = 0
  | [], _ => ⟨rfl, rfl⟩
  | a :: l, f => by
    obtain ⟨x, y⟩ := flat_ints_fine l f
    refine ⟨?_, ?_⟩
    · rw [List.map_cons, PyData.canLayAll0, x]; rfl
    · rw [List.map_cons, PyData.depthAll, y]; rfl
theorem fine_word {N : Net} {p v : Int} : FineL (mWord N p (wordD v)).1 := by
  obtain ⟨x, y⟩ := flat_ints_fine (List.range (1 + v % 40).toNat) fun k => (v + 7 * (k : Int)) % 256
  have hd : (wordD v).depth = 1 := by show PyData.depthAll _ + 1 = 1; rw [y]
  unfold mWord
  split
  · exact fine_nil
  · split
    · refine fine_cons (fine_tell (fine_w1 (by decide +kernel) x) ?_) fine_nil
      show PyData.depthAll [.str "word", wordD v] + 1 ≤ 6
      simp only [PyData.depthAll, hd]
      decide
    · exact fine_nil
theorem fine_clear {r : CallR} {q c : Int} : FineL (clearD r q c) := by
  unfold clearD
  split
  · exact fine_cons fine_unpage fine_nil
  · exact fine_refuse
theorem fine_leave {N : Net} {p c t : Int} : FineL (mLeave N p c t).1 := by
  unfold mLeave
  split
  · exact fine_nil
  · split
    · exact fine_clear
    · exact fine_nil
theorem fine_notReached {E : Env0} {N : Net} {r : CallR} {k : Kd} {c : Int} {linked : List Int} : FineL (mNotReached E N r k c linked).1 := by
  unfold mNotReached
  split
  · exact fine_refuse
  · split
    · exact fine_refuse
    · split
      · exact fine_refuse
      · exact fine_cons fine_page fine_nil
theorem fine_failed {E : Env0} {N : Net} {p : Int} {linked : List Int} : FineL (mFailed E N p linked).1 := by
  unfold mFailed
  split
  · exact fine_nil
  · split
    · exact fine_notReached
    · exact fine_nil
theorem fine_fold {E : Env0} {linked : List Int} {t : Int} : ∀ (cs : List CallR) (an : List PyData × Net), FineL an.1 → FineL (cs.foldl (stepTurn E linked t) an).1
  | [], _, h => h
  | r :: cs, an, h => by
    rw [List.foldl_cons]
    refine fine_fold cs _ ?_
    unfold stepTurn
    split
    · exact fine_app (fine_app h fine_notReached) fine_refuse
    · exact h
theorem fine_step {E : Env0} {N : Net} {linked : List Int} {t : Int} : FineL (mStep E N linked t).1 := fine_fold _ _ fine_nil
theorem fine_event {E : Env0} {N : Net} (h : ∀ x ∈ E.nums, PyData.canLay0 (.str x) = true) (k : Ek) (p v : Int) (linked : List Int) (t : Int) : FineL (mEvent E N k p v linked t).1 := by
  cases k with
  | start => exact fine_start
  | answered => exact fine_answered h
  | alerting => exact fine_alerting
  | connect => exact fine_connect
  | connected => exact fine_connected
  | word => exact fine_word
  | disconnect => exact fine_cons fine_rel fine_leave
  | lost => exact fine_leave
  | failed => exact fine_failed
  | step => exact fine_step
theorem fine_ints {l : List Int} : FineL (l.map PyData.int) := fun d hd => by
  obtain ⟨x, _, rfl⟩ := List.mem_map.mp hd
  exact ⟨rfl, Nat.zero_le _⟩
theorem td_ints {H : Hp} : ∀ {l : List Int}, TDs H (l.map V.int) (l.map PyData.int)
  | [] => .nil
  | _ :: _ => .cons (.int _) td_ints
end
end Mob

set_option Elab.async false
set_option linter.all false
set_option maxRecDepth 100000
set_option maxHeartbeats 4000000
namespace Mob
open PySem PySem.Spec PyProof.Rows L2
section
variable {P : Program} {w : World} {K : PySem.W.Frag} {mg : Str → Option Value} {base : Heap}
/-! ### the law -/
theorem div_at : ∀ i : Nat, i < 8 → ∃ m : Int, ([.int 3, .int 12, .int 48, .int 192, .int 768, .int 3072, .int 12288, .int 49152] : List V)[i]? = some (.int m) ∧ 0 < m ∧ m < 1073741824
  | 0, _ => ⟨_, rfl, by decide, by decide⟩
  | 1, _ => ⟨_, rfl, by decide, by decide⟩
  | 2, _ => ⟨_, rfl, by decide, by decide⟩
  | 3, _ => ⟨_, rfl, by decide, by decide⟩
  | 4, _ => ⟨_, rfl, by decide, by decide⟩
  | 5, _ => ⟨_, rfl, by decide, by decide⟩
  | 6, _ => ⟨_, rfl, by decide, by decide⟩
  | 7, _ => ⟨_, rfl, by decide, by decide⟩
theorem cutV_mem {xs : List V} {lo hi : Option Int} {x : V} (h : x ∈ cutV xs lo hi) : x ∈ xs := List.mem_of_mem_drop (List.mem_of_mem_take h)
def spLaw (K : PySem.W.Frag) : Sp := sp1 fun a H Q => ∃ (sa : Addr) (ns : List Int), a = .ref sa ∧ SqL K H sa (ns.map V.int) ∧ ns.length ≤ 63 ∧ ∀ H', Q (.bl true) H'
theorem ok_law (T : Hd K mg) : OkD P w K mg base d_law 8 P_law (spLaw K) := by
  obtain ⟨fd, F⟩ := T.says.def_ 67 (d := d_law) rfl
  obtain ⟨_, F_law_cell, b_law_cell, G_law_cell⟩ := ok_law_cell (P := P) (w := w) (base := base) T
  obtain ⟨_, F_law_home, b_law_home, G_law_home⟩ := ok_law_home (P := P) (w := w) (base := base) T
  obtain ⟨_, F_Switch_init, b_Switch_init, G_Switch_init⟩ := ok_Switch_init (P := P) (w := w) (base := base) T
  obtain ⟨_, F_law_mixed, b_law_mixed, G_law_mixed⟩ := ok_law_mixed (P := P) (w := w) (base := base) T
  obtain ⟨_, F_law_change, b_law_change, G_law_change⟩ := ok_law_change (P := P) (w := w) (base := base) T
  obtain ⟨_, F_law_choose, b_law_choose, G_law_choose⟩ := ok_law_choose (P := P) (w := w) (base := base) T
  obtain ⟨_, F_law_actions, b_law_actions, G_law_actions⟩ := ok_law_actions (P := P) (w := w) (base := base) T
  obtain ⟨_, F_law_due, b_law_due, G_law_due⟩ := ok_law_due (P := P) (w := w) (base := base) T
  obtain ⟨_, F_law_agrees, b_law_agrees, G_law_agrees⟩ := ok_law_agrees (P := P) (w := w) (base := base) T
  refine ⟨fd, F, F.bindsN (ps := P_law) (fun _ _ _ _ _ _ us hl => match us, hl with | [_], _ => rfl), F.ok sc_law (fun vs H Q E h => sp1_len h) (fun cdv A outer s H vs Q E hr h => ?_)⟩
  have hu := hu_of hr
  obtain ⟨a, rfl, sa, ns, rfl, hs, hns, k⟩ := h
  refine ⟨_, PSs.nox (pss_cons (ps_set (i := 1) sc_law.nd rfl (Or.inl rfl) (pe_op op_add pe_int (pe_op op_mod (pe_call G_law_cell (hr.mono (by decide)) (by rfl) T.gl_law_cell F_law_cell.kp b_law_cell .nil pass0 (pa_cons (pv 0) (pa_cons pe_int pa_nil))) pe_int))) (pss_cons (ps_asg (pe_call G_law_home (hr.mono (by decide)) (by rfl) T.gl_law_home F_law_home.kp b_law_home .nil pass0 (pa_cons (pv 0) (pa_cons (pv 1) pa_nil))) (pg_tup rfl (pgs_cons (pg_name (i := 2) sc_law.nd rfl (Or.inl rfl)) (pgs_cons (pg_name (i := 3) sc_law.nd rfl (Or.inl rfl)) (pgs_cons (pg_name (i := 4) sc_law.nd rfl (Or.inl rfl)) pgs_nil))))) (pss_cons (ps_set (i := 5) sc_law.nd rfl (Or.inl rfl) (pe_disp (pps_cons pe_str (pv 3) (pps_cons pe_str (pv 4) (pps_cons pe_str (pe_lst pa_nil) (pps_cons pe_str (pe_lst pa_nil) pps_nil)))) (by rfl) (by rfl) (fun z => by cases z) (by decide))) (pss_cons (ps_set (i := 6) sc_law.nd rfl (Or.inl rfl) (pe_make T.mk_Switch G_Switch_init (hr.mono (by decide)) rfl T.gl_Switch b_Switch_init .nil pass0 (pa_cons (pv 2) pa_nil))) (pss_cons (ps_set (i := 7) sc_law.nd rfl (Or.inl rfl) pe_int) (pss_cons (ps_for PassesOwn.never rfl (pi_enum rfl T.fr_enumerate (pa_cons (pe_slice sl_list (pv 0) (po_some (pe_op op_add (pe_op op_mul pe_int (pv 1)) pe_int)) (po_some pe_int)) pa_nil)) (pg_tup rfl (pgs_cons (pg_name (i := 8) sc_law.nd rfl (Or.inl rfl)) (pgs_cons (pg_name (i := 9) sc_law.nd rfl (Or.inl rfl)) pgs_nil))) (pss_cons (ps_set (i := 10) sc_law.nd rfl (Or.inl rfl) (pe_call G_law_mixed (hr.mono (by decide)) (by rfl) T.gl_law_mixed F_law_mixed.kp b_law_mixed .nil pass0 (pa_cons (pv 9) (pa_cons (pv 8) pa_nil)))) (pss_cons (ps_set (i := 11) sc_law.nd rfl (Or.inr rfl) (pe_op op_fdiv (pv 10) (pe_op op_pow pe_int pe_int))) (pss_cons (ps_set (i := 7) sc_law.nd rfl (Or.inl rfl) (pe_op op_add (pv 7) (pe_op op_mul (pe_op op_mod (pv 10) pe_int) (pe_op op_mod (pe_op op_fdiv (pv 10) pe_int) pe_int)))) (pss_cons (ps_set (i := 10) sc_law.nd rfl (Or.inl rfl) (pe_op op_fdiv (pv 10) pe_int)) (pss_cons (ps_setLc (i := 12) (own := [("_law_k", 18)]) (g := gName 18) rfl sc_law.nd rfl rfl (sw_true rfl rfl rfl (by decide +kernel)) (pi_range1 rfl T.fr_range (pa_cons (pv 1) pa_nil)) (blkOk_by (own := [("_law_k", 18)]) (N := N_law) (sc := defScope s_law) (by decide +kernel)) (fun _ _ _ _ _ => pg_name (i := 18) sc_law.nd rfl (Or.inl rfl)) (fun _ _ _ _ _ => (pts_one (pt_cmpR op_eq (pe_op op_mod (pe_op op_fdiv (pv 11) (pe_ix (ix_listK (K := K) (by rfl)) (pe_lst (pa_cons pe_int (pa_cons pe_int (pa_cons pe_int (pa_cons pe_int (pa_cons pe_int (pa_cons pe_int (pa_cons pe_int (pa_cons pe_int pa_nil))))))))) (pv 18) (fun _ _ => rfl))) pe_int) pe_int (nomark _)))) (fun _ _ _ _ _ => (pv 18))) (pss_cons (ps_set (i := 13) sc_law.nd rfl (Or.inl rfl) (pe_callTy call_list_of (by rfl) T.fr_list (by decide +kernel) (pa_cons (pv 12) pa_nil))) (pss_cons (ps_if (pt_cmpR op_eq (pe_op op_mod (pe_op op_fdiv (pv 10) pe_int) pe_int) pe_int (nomark _)) (pss_one (ps_expr (pe_call G_law_change (hr.mono (by decide)) (by rfl) T.gl_law_change F_law_change.kp b_law_change .nil pass0 (pa_cons (pv 5) (pa_cons (pv 2) (pa_cons (pe_op op_fdiv (pv 10) pe_int) pa_nil)))))) pss_nil) (pss_cons (ps_asg (pe_call G_law_choose (hr.mono (by decide)) (by rfl) T.gl_law_choose F_law_choose.kp b_law_choose .nil pass0 (pa_cons (pv 5) (pa_cons (pv 10) (pa_cons (pv 11) pa_nil)))) (pg_unl rfl (pgs_cons (pg_name (i := 14) sc_law.nd rfl (Or.inl rfl)) (pgs_cons (pg_name (i := 15) sc_law.nd rfl (Or.inl rfl)) pgs_nil)))) (pss_cons (ps_set (i := 16) sc_law.nd rfl (Or.inl rfl) (pe_call G_law_actions (hr.mono (by decide)) (by rfl) T.gl_law_actions F_law_actions.kp b_law_actions .nil pass0 (pa_cons (pv 6) (pa_cons (pv 5) (pa_cons (pv 14) (pa_cons (pv 15) (pa_cons (pe_op op_fdiv (pv 10) pe_int) (pa_cons (pv 13) (pa_cons (pv 7) pa_nil))))))))) (pss_cons (ps_set (i := 17) sc_law.nd rfl (Or.inl rfl) (pe_call G_law_due (hr.mono (by decide)) (by rfl) T.gl_law_due F_law_due.kp b_law_due .nil pass0 (pa_cons (pv 5) (pa_cons (pv 14) (pa_cons (pv 15) (pa_cons (pe_op op_fdiv (pv 10) pe_int) (pa_cons (pv 12) (pa_cons (pv 7) pa_nil)))))))) (pss_cons (ps_if ((pw_or (pt_not (pt_val (pe_callB call_isi (by rfl) T.fr_isinstance (by decide +kernel) (pa_cons (pv 16) (pa_cons (pe_bltn (v := .ty "list") (u := .type "list") (by rfl) T.fr_list (by decide +kernel) rfl) pa_nil))))) (pw_or (pt_cmpR (op_neD hr.units) (pv 16) (pv 17) (nomark _)) (pw_or1 (pt_cmpR (op_neD hr.units) (pv 13) (pv 12) (nomark _)))))).pt (pss_one (ps_ret pe_bl)) pss_nil) (pss_one (ps_if (pt_not (pt_val (pe_call G_law_agrees (hr.mono (by decide)) (by rfl) T.gl_law_agrees F_law_agrees.kp b_law_agrees .nil pass0 (pa_cons (pv 6) (pa_cons (pv 5) pa_nil))))) (pss_one (ps_ret pe_bl)) pss_nil)))))))))))))) (pss_one (ps_ret pe_bl)))))))), ?_⟩
  refine ⟨_, rfl, _, _, rfl, sa, ns, 0, rfl, rfl, hs, fun c => ?_⟩
  have c0 := Int.emod_nonneg c (show (8 : Int) ≠ 0 by decide)
  have c1 := Int.emod_lt_of_pos c (show (0 : Int) < 8 by decide)
  obtain ⟨n, hn⟩ : ∃ n : Nat, 1 + c % 8 = (n : Int) := ⟨(1 + c % 8).toNat, by omega⟩
  have n1 : 1 ≤ n := by omega
  have n8 : n ≤ 8 := by omega
  refine ⟨_, _, rfl, rfl, (by show (0 : Int) < 8; decide), _, _, rfl, rfl, ?_⟩
  show tSeq _ _ _ [some (.ref sa), some (.int (1 + c % 8)), none, none, none, none, none, none, none, none, none, none, none, none, none, none, none, none, none] H
  rw [hn]
  refine ⟨_, rfl, _, rfl, _, _, rfl, sa, ns, n, rfl, rfl, n1, n8, hs, fun L1 H1 t ho Ah ps nums D fl fr W Sy hnl hfl hcan ht => ?_⟩
  refine ⟨t, _, rfl, SqT.of ht, rfl, _, _, rfl, _, _, rfl, _, _, rfl, rfl, ?_⟩
  refine fun wd hwd => ⟨_, rfl, _, rfl, Nat.zero_le _, fun cl hcl => ⟨Nat.zero_le _, fun ll hll => ?_⟩⟩
  have ncw : wd ≠ cl := ne_of_none upd_same hcl
  have nlw : wd ≠ ll := ne_of_none (upd_old upd_same hcl) hll
  have ncl : cl ≠ ll := ne_of_none upd_same hll
  have hcl1 : H1 cl = none := upd_free hcl
  have hll1 : H1 ll = none := upd_free (upd_free hll)
  refine ⟨upd_old (upd_old upd_same hcl) hll, wdKvs ⟨D, fl, cl, ll⟩, rfl, by show 4 ≤ 15; decide, ?_⟩
  show tSeq _ _ _ [some (.ref sa), some (.int (n : Int)), some (.ref ho), some (.ref D), some (.ref fl), some (.ref wd), none, none, none, none, none, none, none, none, none, none, none, none, none] (upd (upd (upd (upd H1 wd (.dK [])) cl (.lst [])) ll (.lst [])) wd (.dK (wdKvs ⟨D, fl, cl, ll⟩)))
  have s2 : Same H1 (upd (upd (upd (upd H1 wd (.dK [])) cl (.lst [])) ll (.lst [])) wd (.dK (wdKvs ⟨D, fl, cl, ll⟩))) := same_mut (((same_new hwd).trans (same_new hcl)).trans (same_new hll)) hwd
  have hwd2 : (upd (upd (upd (upd H1 wd (.dK [])) cl (.lst [])) ll (.lst [])) wd (.dK (wdKvs ⟨D, fl, cl, ll⟩))) wd = some (.dK (wdKvs ⟨D, fl, cl, ll⟩)) := upd_same
  have hcl2 : (upd (upd (upd (upd H1 wd (.dK [])) cl (.lst [])) ll (.lst [])) wd (.dK (wdKvs ⟨D, fl, cl, ll⟩))) cl = some (.lst []) := upd_off (upd_old upd_same hll) ncw.symm
  have hll2 : (upd (upd (upd (upd H1 wd (.dK [])) cl (.lst [])) ll (.lst [])) wd (.dK (wdKvs ⟨D, fl, cl, ll⟩))) ll = some (.lst []) := upd_off upd_same nlw.symm
  generalize upd (upd (upd (upd H1 wd (.dK [])) cl (.lst [])) ll (.lst [])) wd (.dK (wdKvs ⟨D, fl, cl, ll⟩)) = H2 at s2 hwd2 hcl2 hll2 ⊢
  have st2 : Step (fun _ => False) L1 H1 (setL (setL (setL L1 wd 11) cl 15) ll 16) H2 := (((Step.relab hwd).trans (Step.relab hcl1)).trans (Step.relab hll1)).trans (Step.same s2)
  have M2 := W.hm.keep st2 fun _ _ _ z => z
  have N2 : WN (setL (setL (setL L1 wd 11) cl 15) ll 16) H2 wd ⟨D, fl, cl, ll⟩ nums fr [] [] := by
    refine ⟨⟨hwd2, ?_⟩, W.nl.keep st2 id, W.fl.keep st2 id, fun x hx => (W.facts x hx).keep st2 id, ⟨hcl2, ?_⟩, ⟨hll2, setL_same⟩, by simp, by simp, by simp, W.ndf⟩
    · rw [setL_ne nlw, setL_ne ncw, setL_same]
    · rw [setL_ne ncl, setL_same]
  have hs2 := s2.seq (W.sm.seq hs)
  generalize setL (setL (setL L1 wd 11) cl 15) ll 16 = L2 at st2 M2 N2
  refine ⟨_, rfl, ?_⟩
  intro sw dsw nsw ndsw nex
  refine ⟨_, _, rfl, sw, dsw, ho, rfl, rfl, upd_same, fun H3 rl bk dbk bl hrl hbk hbl n1' n2' n3' e1 e2 e3 e4 keep => ⟨rfl, ?_⟩⟩
  have s3 := Same.made nsw ndsw keep
  have hrl2 : H2 rl = none := upd_free (upd_free hrl)
  have hbk2 : H2 bk = none := upd_free (upd_free hbk)
  have hbl2 : H2 bl = none := upd_free (upd_free hbl)
  have nsr : sw ≠ rl := ne_of_none upd_same hrl
  have nsb : sw ≠ bk := ne_of_none upd_same hbk
  have nsl : sw ≠ bl := ne_of_none upd_same hbl
  have st3 : Step (fun _ => False) L2 H2 (setL (setL (setL (setL L2 sw 5) rl 6) bk 7) bl 8) H3 := ((((Step.relab nsw).trans (Step.relab hrl2)).trans (Step.relab hbk2)).trans (Step.relab hbl2)).trans (Step.same s3)
  have M3 := M2.keep st3 fun _ _ _ z => z
  have N3 := N2.keep st3 fun _ _ _ z => z
  have P3 : PN K (setL (setL (setL (setL L2 sw 5) rl 6) bk 7) bl 8) H3 sw ho ⟨dsw, rl, bk, dbk, bl⟩ [] [] := by
    refine ⟨⟨e1, ?_⟩, ⟨e2, ?_⟩, ⟨e3, ?_⟩, ⟨e4, setL_same⟩, by simp, by simp, by simp⟩
    · rw [setL_ne nsl, setL_ne nsb, setL_ne nsr, setL_same]
    · rw [setL_ne n2', setL_ne n1', setL_same]
    · rw [setL_ne n3', setL_same]
  have hs3 := s3.seq hs2
  generalize setL (setL (setL (setL L2 sw 5) rl 6) bk 7) bl 8 = L3 at st3 M3 N3 P3
  refine ⟨_, rfl, _, rfl, _, _, rfl, rfl, .inl ⟨by decide, by decide⟩, _, _, rfl, rfl, _, rfl, _, rfl, sa, _, rfl, hs3, fun sl hsl => ?_⟩
  have M4 := M3.keep (S := fun _ => False) ((Step.relab (k := 50) hsl).trans (Step.alloc (o := .lst (cutV (ns.map V.int) (some (2 * (n : Int) + 1)) (some 63))) hsl)) fun _ _ _ z => z
  have N4 := N3.keep (S := fun _ => False) ((Step.relab (k := 50) hsl).trans (Step.alloc (o := .lst (cutV (ns.map V.int) (some (2 * (n : Int) + 1)) (some 63))) hsl)) fun _ _ _ z => z
  have P4 := P3.keep (S := fun _ => False) ((Step.relab (k := 50) hsl).trans (Step.alloc (o := .lst (cutV (ns.map V.int) (some (2 * (n : Int) + 1)) (some 63))) hsl)) fun _ _ _ z => z
  have hxs : ∀ x ∈ cutV (ns.map V.int) (some (2 * (n : Int) + 1)) (some 63), ∃ z, x = .int z := fun x hx => by
    obtain ⟨z, _, rfl⟩ := List.mem_map.mp (cutV_mem hx)
    exact ⟨z, rfl⟩
  have hxl : (cutV (ns.map V.int) (some (2 * (n : Int) + 1)) (some 63)).length ≤ 63 := Nat.le_trans (cutV_length _ _ _) (by rw [List.length_map]; exact hns)
  refine ⟨sl, cutV (ns.map V.int) (some (2 * (n : Int) + 1)) (some 63), rfl, SqL.of upd_same, ?_⟩
  have a4 : At (setL L3 sl 50) (upd H3 sl (.lst (cutV (ns.map V.int) (some (2 * (n : Int) + 1)) (some 63)))) 50 sl (.lst (cutV (ns.map V.int) (some (2 * (n : Int) + 1)) (some 63))) := ⟨upd_same, setL_same⟩
  generalize cutV (ns.map V.int) (some (2 * (n : Int) + 1)) (some 63) = xs at M4 N4 P4 hxs hxl a4 ⊢
  refine for_it (walk_enum (K := K) (a := sl) (xs := xs)) (fun i σ H => ∃ (L : Lb) (Ap : PA) (ac : List (Addr × CallR)) (al : List (Addr × LineR)) (ps : List PRec) (A : WA) (fr : List (Addr × Fct)) (wc : List (Addr × CallR)) (wl : List (Addr × LineR)) (tk : Int) (b8 b9 b10 b11 b12 b13 b14 b15 b16 b17 b18 : Option V),
    σ = [some (.ref sa), some (.int (n : Int)), some (.ref ho), some (.ref D), some (.ref fl), some (.ref wd), some (.ref sw), some (.int tk), b8, b9, b10, b11, b12, b13, b14, b15, b16, b17, b18] ∧
    PN K L H sw ho Ap ac al ∧ HM K L H ho Ah ps ∧ Says ps ⟨nums, fr.map (fun x : Addr × Fct => x.2)⟩ ∧ WN L H wd A nums fr wc wl ∧ fr.length = nums.length ∧ Inv0 nums.length ⟨ac.map (·.2), al.map (·.2)⟩ ∧ ac.map (·.2) = wc.map (·.2) ∧ al.map (·.2) = wl.map (·.2) ∧ ac.length ≤ i ∧ al.length ≤ i ∧ At L H 50 sl (.lst xs))
    ⟨_, _, [], [], ps, _, fr, [], [], 0, _, _, _, _, _, _, _, _, _, _, _, rfl, P4, M4, Sy, N4, by omega, inv_nil, rfl, rfl, Nat.le_refl _, Nat.le_refl _, a4⟩ (fun i σ H _ h => ?_) ?_ ?_
  · obtain ⟨_, _, _, _, _, _, _, _, _, _, _, _, _, _, _, _, _, _, _, _, _, _, _, _, _, _, _, _, _, _, _, _, q⟩ := h
    exact SqL.of q.1
  · rintro i x σ H H' hi ⟨L, Ap, ac, al, ps, A, fr, wc, wl, tk, b8, b9, b10, b11, b12, b13, b14, b15, b16, b17, b18, rfl, PNn, M, Sy, N, hfl, I, ec, el, hac, hal, ha⟩ ⟨T, p, q, rfl, hT, eH, g1, g2⟩
    cases g1
    obtain ⟨z, rfl⟩ := hxs q (List.mem_of_getElem? g2)
    have hTt : H' T = some (.tup [.int (i : Int), .int z]) := by rw [eH]; exact upd_same
    have sT : Same H H' := by rw [eH]; exact same_new hT
    have P1 := PNn.same sT
    have M1 := M.same sT
    have N1 := N.same sT
    have ha1 := ha.same sT
    refine ⟨T, _, rfl, SqT.of hTt, rfl, _, _, rfl, _, _, rfl, rfl, ?_⟩
    refine ⟨_, rfl, _, rfl, _, _, rfl, z, (i : Int), rfl, rfl, fun y => ?_⟩
    refine ⟨_, rfl, _, _, rfl, rfl, ⟨by decide, by decide, by decide⟩, _, _, rfl, rfl, ⟨by decide, by decide⟩, ?_⟩
    refine ⟨_, rfl, _, rfl, _, _, rfl, rfl, (by show (0 : Int) < 21; decide), _, rfl, _, _, rfl, rfl, ⟨by decide, by decide⟩, _, _, rfl, rfl, (by show (0 : Int) < 2; decide), _, _, rfl, rfl, ?_, _, _, rfl, rfl, ?_⟩
    · have y0 := Int.emod_nonneg y (show (21 : Int) ≠ 0 by decide)
      have y1 := Int.emod_lt_of_pos y (show (0 : Int) < 21 by decide)
      exact .inl ⟨by omega, by omega⟩
    refine ⟨_, rfl, _, _, rfl, rfl, ⟨by decide, by decide⟩, ?_⟩
    show tSeq _ _ _ [some (.ref sa), some (.int (n : Int)), some (.ref ho), some (.ref D), some (.ref fl), some (.ref wd), some (.ref sw), some (.int (tk + y % 21 * (y / 21 % 2))), some (.int (i : Int)), some (.int z), some (.int (y / 42)), some (.int (y / ((10 : Int) ^ (9 : Int).toNat))), b12, b13, b14, b15, b16, b17, b18] H'
    generalize y / ((10 : Int) ^ (9 : Int).toNat) = far
    generalize tk + y % 21 * (y / 21 % 2) = tk2
    generalize y / 42 = v
    refine ⟨_, rfl, (n : Int), rfl, by omega, by omega, fun lk hlk => lc_range (lo := 0) (n := n) (fun i H2 => Same H' H2 ∧ ∃ l : List Int, H2 lk = some (.lst (l.map V.int)) ∧ l.length ≤ i) ⟨same_new hlk, [], upd_same, Nat.le_refl _⟩ ?_ ?_⟩
    · rintro j H2 hj ⟨s2, l, h2, hl⟩
      rw [show (0 : Int) + (j : Int) = (j : Int) from Int.zero_add _]
      refine ⟨rfl, ?_⟩
      obtain ⟨m, hm, m0, m1⟩ := div_at j (by omega)
      refine ⟨_, rfl, by show 8 ≤ sizeLine; decide, fun dl hdl => ?_⟩
      refine ⟨_, rfl, dl, _, _, _, rfl, rfl, SqL.of upd_same, atI_nat hm, _, _, rfl, rfl, ⟨m0, m1⟩, _, _, rfl, rfl, (by show (0 : Int) < 4; decide), rfl, _, rfl, ?_⟩
      refine ite2 (fun _ => ?_) (fun _ => ?_)
      · refine ⟨_, rfl, l.map V.int, upd_old h2 hdl, ?_, same_mut (s2.trans (same_new hdl)) hlk, l ++ [(j : Int)], ?_, ?_⟩
        · rw [List.length_map]
          exact small1000 (by omega)
        · rw [upd_same, List.map_append]; rfl
        · rw [List.length_append]
          exact Nat.succ_le_succ hl
      · exact ⟨s2.trans (same_new hdl), l, upd_old h2 hdl, by omega⟩
    · rintro H2 ⟨s2, linked, h2, hll⟩
      refine ⟨_, rfl, lk, _, rfl, .inl (SqL.of h2), fun kp hkp => ?_⟩
      have hlk1 : H' lk = none := by
        cases e : H' lk with
        | none => rfl
        | some o => exact absurd rfl (ne_of_none e hlk)
      have hkp1 : H' kp = none := s2.free hkp
      have nlk : lk ≠ kp := ne_of_none h2 hkp
      have sA : Same H' (upd H2 kp (.lst (linked.map V.int))) := s2.trans (same_new hkp)
      have stA : Step (fun _ => False) L H' (setL (setL L lk 0) kp 0) (upd H2 kp (.lst (linked.map V.int))) := ((Step.relab hlk1).trans (Step.relab hkp1)).trans (Step.same sA)
      have P2 := P1.keep stA fun _ _ _ z => z
      have M2 := M1.keep stA fun _ _ _ z => z
      have N2 := N1.keep stA fun _ _ _ z => z
      have ha2 := ha1.keep stA id
      have hlk2 : At (setL (setL L lk 0) kp 0) (upd H2 kp (.lst (linked.map V.int))) 0 lk (.lst (linked.map V.int)) := ⟨upd_old h2 hkp, by rw [setL_ne nlk, setL_same]⟩
      have hkp2 : At (setL (setL L lk 0) kp 0) (upd H2 kp (.lst (linked.map V.int))) 0 kp (.lst (linked.map V.int)) := ⟨upd_same, setL_same⟩
      generalize upd H2 kp (.lst (linked.map V.int)) = H3 at sA stA P2 M2 N2 ha2 hlk2 hkp2 ⊢
      generalize setL (setL L lk 0) kp 0 = L3 at stA P2 M2 N2 ha2 hlk2 hkp2
      refine ⟨_, rfl, _, _, rfl, rfl, ⟨by decide, by decide⟩, _, _, rfl, rfl, (by show (0 : Int) < 6; decide), rfl, _, rfl, ?_⟩
      refine ite2 (fun _ => ?_) (fun _ => ?_)
      · refine ⟨_, rfl, _, rfl, _, rfl, _, _, rfl, rfl, ⟨by decide, by decide⟩, _, _, _, rfl, L3, wd, A, nums, fr, wc, wl, ho, Ah, ps, _, rfl, rfl, rfl, N2, M2, Sy, hfl, by omega, fun L4 H4 fr4 ps4 w4 st4 N4 M4 Sy4 hfl4 => ?_⟩
        have P4 := P2.keep st4 fun k a b z => by rcases z with z | z <;> omega
        have ha4 := ha2.keep st4 fun z => by rcases z with z | z <;> omega
        have hlk4 := hlk2.keep st4 fun z => by rcases z with z | z <;> omega
        have hkp4 := hkp2.keep st4 fun z => by rcases z with z | z <;> omega
        have hinv : ∀ x ∈ wc, (0 ≤ x.2.caller ∧ x.2.caller < nums.length) ∧ ∃ g, x.2.called = some g ∧ 0 ≤ g ∧ g < nums.length := fun x hx => by
          have hm : x.2 ∈ ac.map (·.2) := by rw [ec]; exact List.mem_map.mpr ⟨x, hx, rfl⟩
          exact ⟨I.caller _ hm, I.called _ hm⟩
        refine ⟨_, rfl, _, rfl, _, rfl, _, _, _, rfl, L4, wd, A, nums, fr4, wc, wl, v, far, rfl, rfl, rfl, N4, by omega, hinv, fun cl5 H5 ek p s5 hcl5 p0 p1 => ?_⟩
        have P5 := P4.same s5
        have M5 := M4.same s5
        have N5 := N4.same s5
        have ha5 := ha4.same s5
        have hlk5 := hlk4.same s5
        have hkp5 := hkp4.same s5
        have hcw : wc.length = ac.length := by
          have := congrArg List.length ec
          rw [List.length_map, List.length_map] at this
          exact this.symm
        have hlw : wl.length = al.length := by
          have := congrArg List.length el
          rw [List.length_map, List.length_map] at this
          exact this.symm
        have Iw : Inv0 nums.length ⟨wc.map (·.2), wl.map (·.2)⟩ := by rw [← ec, ← el]; exact I
        refine ⟨cl5, _, rfl, SqL.of hcl5, rfl, _, _, rfl, _, _, rfl, rfl, ?_⟩
        refine ⟨_, rfl, _, rfl, _, rfl, _, rfl, _, rfl, _, _, rfl, rfl, ⟨by decide, by decide⟩, _, rfl, _, rfl, _, _, _, _, _, _, _, rfl, L4, sw, ho, Ap, ac, al, Ah, ps4, wd, A, nums, fr4, wc, wl, ek, p, v / 7, kp, linked, tk2, rfl, rfl, rfl, rfl, rfl, rfl, rfl, P5, M5, Sy4, N5, I, by omega, by omega, hkp5, by omega, ?_⟩
        intro L6 H6 Ap6 ac6 al6 v6 st6 P6 f1 f2 r6
        have M6 := M5.keep st6 fun k a b z => absurd z.1 (by omega)
        have N6 := N5.keep st6 fun k a b z => absurd z.2 (by omega)
        have ha6 := ha5.keep st6 fun z => absurd z.2 (by decide)
        have hlk6 := hlk5.keep st6 fun z => absurd z.1 (by decide)
        have hkp6 := hkp5.keep st6 fun z => absurd z.1 (by decide)
        refine ⟨_, rfl, _, rfl, _, rfl, _, rfl, _, _, rfl, rfl, ⟨by decide, by decide⟩, _, rfl, _, rfl, _, _, _, _, _, _, rfl, L6, wd, A, nums, fr4, wc, wl, ek, p, v / 7, lk, linked, tk2, rfl, rfl, rfl, rfl, rfl, rfl, N6, hfl4, Iw, by omega, by omega, hlk6, by omega, ?_⟩
        intro L7 H7 A7 wc7 wl7 v7 st7 N7 f3 f4 r7
        have P7 := P6.keep st7 fun k a b z => absurd z.1 (by omega)
        have M7 := M6.keep st7 fun k a b z => absurd z.1 (by omega)
        have ha7 := ha6.keep st7 fun z => absurd z.2 (by decide)
        have hlk7 := hlk6.keep st7 fun z => absurd z.1 (by decide)
        have hkp7 := hkp6.keep st7 fun z => absurd z.1 (by decide)
        have r67 := r6.keep st7 fun z => absurd z.1 (by decide)
        rw [← ec, ← el] at f3 f4 r7
        have hfine : FineL (mEvent ⟨nums, fr4.map (fun x : Addr × Fct => x.2)⟩ ⟨ac.map (·.2), al.map (·.2)⟩ ek p (v / 7) linked tk2).1 := fine_event hcan _ _ _ _ _
        obtain ⟨I7, l7, l8⟩ := inv_event (E := ⟨nums, fr4.map (fun x : Addr × Fct => x.2)⟩) (n := nums.length) rfl I ek p0 p1 (v / 7) linked tk2
        rw [← f1, List.length_map, List.length_map] at l7
        rw [← f2, List.length_map, List.length_map] at l8
        have I8 : Inv0 nums.length ⟨ac6.map (·.2), al6.map (·.2)⟩ := by rw [f1, f2]; exact I7
        have d6 := AL.dp (K := K) r67
        have d7 := AL.dp (K := K) r7
        obtain ⟨q6, xs6, rfl, b6, t6⟩ := r67
        refine ⟨_, rfl, _, _, _, _, true, rfl, .ty "list", .base (.lst b6.1), kit_ty (by decide +kernel), _, rfl, iteF ?_⟩
        refine ⟨_, rfl, _, rfl, _, _, d6, d7, shaped_list hfine, shaped_list hfine, ?_⟩
        rw [ne_same (shaped_list hfine)]
        refine ⟨_, rfl, iteF ?_⟩
        refine ⟨_, rfl, _, rfl, _, _, .lst (SqL.of hkp7.1) (TDs.dp _ _ td_ints), .lst (SqL.of hlk7.1) (TDs.dp _ _ td_ints), shaped_list fine_ints, shaped_list fine_ints, ?_⟩
        rw [ne_same (shaped_list fine_ints)]
        refine ⟨_, rfl, iteF ?_⟩
        refine ⟨_, rfl, _, rfl, _, _, rfl, L7, sw, ho, Ap6, ac6, al6, wd, A7, nums, fr4, wc7, wl7, rfl, rfl, P7, N7, by rw [f1, f3], by rw [f2, f4], by omega, by omega, fun H8 s8 => ?_⟩
        refine ⟨_, rfl, iteF ?_⟩
        exact ⟨L7, Ap6, ac6, al6, ps4, A7, fr4, wc7, wl7, tk2, _, _, _, _, _, _, _, _, _, _, _, rfl, P7.same s8, M7.same s8, Sy4, N7.same s8, hfl4, I8, by rw [f1, f3], by rw [f2, f4], by omega, by omega, ha7.same s8⟩
      · obtain ⟨L4, H4, fr4, ps4, e1, e2, e3, e4⟩ : ∃ (L4 : Lb) (H4 : Hp) (fr4 : List (Addr × Fct)) (ps4 : List PRec), L4 = L3 ∧ H4 = H3 ∧ fr4 = fr ∧ ps4 = ps := ⟨_, _, _, _, rfl, rfl, rfl, rfl⟩
        rw [← e2]
        rw [← e1, ← e2] at P2 M2 N2 ha2 hlk2 hkp2
        rw [← e3] at N2 Sy hfl
        rw [← e4] at M2 Sy
        have P4 := P2
        have M4 := M2
        have N4 := N2
        have Sy4 := Sy
        have hfl4 := hfl
        have ha4 := ha2
        have hlk4 := hlk2
        have hkp4 := hkp2
        have hinv : ∀ x ∈ wc, (0 ≤ x.2.caller ∧ x.2.caller < nums.length) ∧ ∃ g, x.2.called = some g ∧ 0 ≤ g ∧ g < nums.length := fun x hx => by
          have hm : x.2 ∈ ac.map (·.2) := by rw [ec]; exact List.mem_map.mpr ⟨x, hx, rfl⟩
          exact ⟨I.caller _ hm, I.called _ hm⟩
        refine ⟨_, rfl, _, rfl, _, rfl, _, _, _, rfl, L4, wd, A, nums, fr4, wc, wl, v, far, rfl, rfl, rfl, N4, by omega, hinv, fun cl5 H5 ek p s5 hcl5 p0 p1 => ?_⟩
        have P5 := P4.same s5
        have M5 := M4.same s5
        have N5 := N4.same s5
        have ha5 := ha4.same s5
        have hlk5 := hlk4.same s5
        have hkp5 := hkp4.same s5
        have hcw : wc.length = ac.length := by
          have := congrArg List.length ec
          rw [List.length_map, List.length_map] at this
          exact this.symm
        have hlw : wl.length = al.length := by
          have := congrArg List.length el
          rw [List.length_map, List.length_map] at this
          exact this.symm
        have Iw : Inv0 nums.length ⟨wc.map (·.2), wl.map (·.2)⟩ := by rw [← ec, ← el]; exact I
        refine ⟨cl5, _, rfl, SqL.of hcl5, rfl, _, _, rfl, _, _, rfl, rfl, ?_⟩
        refine ⟨_, rfl, _, rfl, _, rfl, _, rfl, _, rfl, _, _, rfl, rfl, ⟨by decide, by decide⟩, _, rfl, _, rfl, _, _, _, _, _, _, _, rfl, L4, sw, ho, Ap, ac, al, Ah, ps4, wd, A, nums, fr4, wc, wl, ek, p, v / 7, kp, linked, tk2, rfl, rfl, rfl, rfl, rfl, rfl, rfl, P5, M5, Sy4, N5, I, by omega, by omega, hkp5, by omega, ?_⟩
        intro L6 H6 Ap6 ac6 al6 v6 st6 P6 f1 f2 r6
        have M6 := M5.keep st6 fun k a b z => absurd z.1 (by omega)
        have N6 := N5.keep st6 fun k a b z => absurd z.2 (by omega)
        have ha6 := ha5.keep st6 fun z => absurd z.2 (by decide)
        have hlk6 := hlk5.keep st6 fun z => absurd z.1 (by decide)
        have hkp6 := hkp5.keep st6 fun z => absurd z.1 (by decide)
        refine ⟨_, rfl, _, rfl, _, rfl, _, rfl, _, _, rfl, rfl, ⟨by decide, by decide⟩, _, rfl, _, rfl, _, _, _, _, _, _, rfl, L6, wd, A, nums, fr4, wc, wl, ek, p, v / 7, lk, linked, tk2, rfl, rfl, rfl, rfl, rfl, rfl, N6, hfl4, Iw, by omega, by omega, hlk6, by omega, ?_⟩
        intro L7 H7 A7 wc7 wl7 v7 st7 N7 f3 f4 r7
        have P7 := P6.keep st7 fun k a b z => absurd z.1 (by omega)
        have M7 := M6.keep st7 fun k a b z => absurd z.1 (by omega)
        have ha7 := ha6.keep st7 fun z => absurd z.2 (by decide)
        have hlk7 := hlk6.keep st7 fun z => absurd z.1 (by decide)
        have hkp7 := hkp6.keep st7 fun z => absurd z.1 (by decide)
        have r67 := r6.keep st7 fun z => absurd z.1 (by decide)
        rw [← ec, ← el] at f3 f4 r7
        have hfine : FineL (mEvent ⟨nums, fr4.map (fun x : Addr × Fct => x.2)⟩ ⟨ac.map (·.2), al.map (·.2)⟩ ek p (v / 7) linked tk2).1 := fine_event hcan _ _ _ _ _
        obtain ⟨I7, l7, l8⟩ := inv_event (E := ⟨nums, fr4.map (fun x : Addr × Fct => x.2)⟩) (n := nums.length) rfl I ek p0 p1 (v / 7) linked tk2
        rw [← f1, List.length_map, List.length_map] at l7
        rw [← f2, List.length_map, List.length_map] at l8
        have I8 : Inv0 nums.length ⟨ac6.map (·.2), al6.map (·.2)⟩ := by rw [f1, f2]; exact I7
        have d6 := AL.dp (K := K) r67
        have d7 := AL.dp (K := K) r7
        obtain ⟨q6, xs6, rfl, b6, t6⟩ := r67
        refine ⟨_, rfl, _, _, _, _, true, rfl, .ty "list", .base (.lst b6.1), kit_ty (by decide +kernel), _, rfl, iteF ?_⟩
        refine ⟨_, rfl, _, rfl, _, _, d6, d7, shaped_list hfine, shaped_list hfine, ?_⟩
        rw [ne_same (shaped_list hfine)]
        refine ⟨_, rfl, iteF ?_⟩
        refine ⟨_, rfl, _, rfl, _, _, .lst (SqL.of hkp7.1) (TDs.dp _ _ td_ints), .lst (SqL.of hlk7.1) (TDs.dp _ _ td_ints), shaped_list fine_ints, shaped_list fine_ints, ?_⟩
        rw [ne_same (shaped_list fine_ints)]
        refine ⟨_, rfl, iteF ?_⟩
        refine ⟨_, rfl, _, rfl, _, _, rfl, L7, sw, ho, Ap6, ac6, al6, wd, A7, nums, fr4, wc7, wl7, rfl, rfl, P7, N7, by rw [f1, f3], by rw [f2, f4], by omega, by omega, fun H8 s8 => ?_⟩
        refine ⟨_, rfl, iteF ?_⟩
        exact ⟨L7, Ap6, ac6, al6, ps4, A7, fr4, wc7, wl7, tk2, _, _, _, _, _, _, _, _, _, _, _, rfl, P7.same s8, M7.same s8, Sy4, N7.same s8, hfl4, I8, by rw [f1, f3], by rw [f2, f4], by omega, by omega, ha7.same s8⟩
  · rintro σ H ⟨L, Ap, ac, al, ps, A, fr, wc, wl, tk, b8, b9, b10, b11, b12, b13, b14, b15, b16, b17, b18, rfl, _⟩
    exact k _
end
end Mob

set_option Elab.async false
set_option linter.all false
set_option maxRecDepth 100000
set_option maxHeartbeats 0
namespace Mob
open PySem PySem.Spec PyProof.Rows L2
theorem facts {P : Program} {w : World} {K : PySem.W.Frag} {h : Heap} {mg : Str → Option Value} {f : Addr} (X : K.In h) (G : h.Ns mainGlobals mg) (hfa : mg ("law" : Str) = some (.ref f)) (c : He.SaysD fa fn K) :
    ∃ fd : FuncData, (∀ (s : Shared) (v : Value), BindsTo s fd ⟨[v], []⟩ [("_law_script", v)]) ∧ ∀ base : Heap, K.In base → base.Ns mainGlobals mg → FnOk P w K mg base CX0 8 f fd ["_law_script"] (spLaw K) := by
  have T : Hd K mg := ⟨c, h, X, G⟩
  obtain ⟨fd, F⟩ := c.def_ 67 (d := d_law) rfl
  have e := hfa.symm.trans T.gl_law
  cases e
  have b := FunD.bindsA (ps := ["_law_script"]) F fun _ _ _ _ _ _ us hl => match us, hl with | [_], _ => rfl
  refine ⟨fd, fun s v => b s [v] rfl, fun base _ _ => ?_⟩
  obtain ⟨fd2, F2, _, ok⟩ := ok_law (P := P) (w := w) (base := base) T
  have : fd2 = fd := by
    obtain ⟨_, _, _, _, _, _, _, _, _, _, _, l1, _⟩ := F.ex
    obtain ⟨_, _, _, _, _, _, _, _, _, _, _, l2, _⟩ := F2.ex
    have := Option.some.inj (l1.symm.trans l2)
    injection this with _ _ h3 _
    injection h3 with h4
    exact h4.symm
  rw [this] at ok
  exact ok
end Mob
open PySem PySem.W PySem.Calls PyProof.Rows
theorem PySem.Challenge.cw_mobileair_k69_whole_switch_holds : PySem.Challenge.rw_mobileair_k69_whole_switch.Holds := by
  w_on; o_law
  refine HandSHeadRun.head_any (r := OpenLaw.row PySem.Challenge.rw_mobileair_k69_whole_switch) (q := view (OpenLaw.row PySem.Challenge.rw_mobileair_k69_whole_switch).prog [46]) (H := Mob.hk) (ob := Mob.ob) (M := 8000) (loose := Mob.loose) (d := HandSHeadRun.topDef (OpenLaw.row PySem.Challenge.rw_mobileair_k69_whole_switch).prog 46) (kwd := []) Mob.ob_eq
    (by kernel_rfl) (fun s => by kernel_rfl) Mob.run (by kernel_rfl) (by kernel_rfl) (by kernel_rfl) (by rfl) (by first | assumption | decide +kernel) (by decide +kernel) ⟨rfl, rfl, rfl, rfl, rfl, by decide +kernel⟩ ?hw ?hc
  case hw => w_witness2
  case hc =>
    refine L2.walk_ofE (l := PySem.Challenge.rw_mobileair_k69_whole_switch) (n := 63) (k := 8) (x := "_law_script") (CX := L2.CX0) rfl (by decide) (by kernel_rfl) ⟨rfl, by decide, by decide⟩ ?F (fun _ _ _ _ z => z)
    intro w mg fa h Y G hmg0
    obtain ⟨K, KX, c⟩ := Y
    have hmg : mg ("law" : PySem.Str) = some (.ref fa) := by
      have e : (HandSHeadRun.topDef (OpenLaw.row PySem.Challenge.rw_mobileair_k69_whole_switch).prog 46).name = ("law" : PySem.Str) := by kernel_rfl
      rw [← e]
      exact hmg0
    obtain ⟨fd, hb, hF⟩ := Mob.facts (P := (PySem.Challenge.rw_mobileair_k69_whole_switch).prog) (w := w) KX G hmg c
    exact ⟨K, fd, Mob.spLaw K, KX, hb, fun H a ns hl _ hS => ⟨_, rfl, a, ns, rfl, hS, hl, fun _ => rfl⟩, hF⟩
