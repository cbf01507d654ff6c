import PyProof.Rows.All
import Wide.All
import OpenK.AllK
import Wide.FinOn
import HandS.ForMost
import HandS.Codes
import HandS.Property
import HandS.Star
import HandS.IsInst
import PySem.Challenge.RW_loginstacks_k72_whole_suspects_and_least
import HandS.Evl
import HandS.TupAny
import HandS.CallRecv
import HandS.Walk
import HandS.Zip
import HandS.Conv
import HandS.DeepEq
import HandS.Strs
import KE.GoesOver
import KE.GoesEnum
import KE.GoesZip
import KE.GoesMore
import HandS.SetFor
import HandS.TupSets
import KE.SortData
import HandS.SetTxt0
import KE.KeyNested
import KE.KDictKeyed
import KE.KDictList
import KE.KDictWalk
import KE.KDictZip
import HandS.Deep
import HandS.ListEq
import KE.KEqNest
/-! The plain law: trees of rules, their runs, answers; no program in sight. -/
namespace Ka

inductive Nm where | card | key | pin
  deriving DecidableEq, Repr
inductive Res where | yes | no | skip | gone
  deriving DecidableEq, Repr
inductive Act where | ok | bad | die | done | ign | reset | jump (n : Nat)
  deriving DecidableEq, Repr
inductive Mk where | non | good | bad (n : Int)
  deriving DecidableEq, Repr
/-- a stack's entries: a rule and the rest, an inner stack and the rest -/
inductive Tr where
  | nil
  | rule (n : Nm) (a : Res → Act) (rest : Tr)
  | stk (inner rest : Tr)

namespace Tr
def count : Tr → Nat
  | nil => 0
  | rule _ _ r => r.count + 1
  | stk i r => i.count + r.count
def len : Tr → Nat
  | nil => 0
  | rule _ _ r => r.len + 1
  | stk _ r => r.len + 1
def depth : Tr → Nat
  | nil => 1
  | rule _ _ r => r.depth
  | stk i r => max (i.depth + 1) r.depth
def has (m : Nm) : Tr → Bool
  | nil => false
  | rule n _ r => decide (n = m) || r.has m
  | stk i r => i.has m || r.has m
def app : Tr → Tr → Tr
  | nil, u => u
  | rule n a r, u => rule n a (r.app u)
  | stk i r, u => stk i (r.app u)
/-- the rules, one behind another -/
def rules : Tr → List (Nm × (Res → Act))
  | nil => []
  | rule n a r => (n, a) :: r.rules
  | stk i r => i.rules ++ r.rules
theorem one_le_depth : ∀ t : Tr, 1 ≤ t.depth
  | nil => Nat.le_refl 1
  | rule _ _ r => one_le_depth r
  | stk i r => by have := one_le_depth r; simp only [depth]; omega
theorem app_nil : ∀ t : Tr, t.app nil = t
  | nil => rfl
  | rule n a r => by simp only [app, app_nil r]
  | stk i r => by simp only [app, app_nil r]
theorem app_assoc : ∀ t u v : Tr, (t.app u).app v = t.app (u.app v)
  | nil, _, _ => rfl
  | rule n a r, u, v => by simp only [app, app_assoc r]
  | stk i r, u, v => by simp only [app, app_assoc r]
theorem count_app : ∀ t u : Tr, (t.app u).count = t.count + u.count
  | nil, u => by simp [app, count]
  | rule n a r, u => by simp only [app, count, count_app r]; omega
  | stk i r, u => by simp only [app, count, count_app r]; omega
theorem len_app : ∀ t u : Tr, (t.app u).len = t.len + u.len
  | nil, u => by simp [app, len]
  | rule n a r, u => by simp only [app, len, len_app r]; omega
  | stk i r, u => by simp only [app, len, len_app r]; omega
theorem depth_app : ∀ t u : Tr, (t.app u).depth = max t.depth u.depth
  | nil, u => by have := one_le_depth u; simp only [app, depth]; omega
  | rule n a r, u => by simp only [app, depth, depth_app r]
  | stk i r, u => by simp only [app, depth, depth_app r]; omega
theorem rules_app : ∀ t u : Tr, (t.app u).rules = t.rules ++ u.rules
  | nil, u => rfl
  | rule n a r, u => by simp only [app, rules, rules_app r, List.cons_append]
  | stk i r, u => by simp only [app, rules, rules_app r, List.append_assoc]
theorem rules_length : ∀ t : Tr, t.rules.length = t.count
  | nil => rfl
  | rule n a r => by simp only [rules, count, List.length_cons, rules_length r]
  | stk i r => by simp only [rules, count, List.length_append, rules_length i, rules_length r]
theorem has_iff (m : Nm) : ∀ t : Tr, t.has m = true ↔ m ∈ t.rules.map (·.1)
  | nil => by simp [has, rules]
  | rule n a r => by
    simp only [has, rules, List.map_cons, List.mem_cons, Bool.or_eq_true, decide_eq_true_eq, has_iff m r]
    constructor
    · rintro (h | h)
      · exact .inl h.symm
      · exact .inr h
    · rintro (h | h)
      · exact .inl h.symm
      · exact .inr h
  | stk i r => by simp only [has, rules, List.map_append, List.mem_append, Bool.or_eq_true, has_iff m i, has_iff m r]
end Tr

/-! ### names -/
def Nm.all : List Nm := [.card, .key, .pin]
theorem Nm.mem_all (n : Nm) : n ∈ Nm.all := by cases n <;> decide
def names (t : Tr) : List Nm := Nm.all.filter fun n => t.has n
theorem mem_names {t : Tr} {n : Nm} : n ∈ names t ↔ t.has n = true := by
  simp [names, Nm.mem_all]
theorem names_nodup (t : Tr) : (names t).Nodup := List.Pairwise.filter _ (by decide)
theorem names_len (t : Tr) : (names t).length ≤ 3 := List.length_filter_le _ _
/-- the names of both -/
def both (s t : Tr) : List Nm := Nm.all.filter fun n => s.has n || t.has n
theorem mem_both {s t : Tr} {n : Nm} : n ∈ both s t ↔ s.has n = true ∨ t.has n = true := by
  simp [both, Nm.mem_all]
theorem both_nodup (s t : Tr) : (both s t).Nodup := List.Pairwise.filter _ (by decide)
theorem both_len (s t : Tr) : (both s t).length ≤ 3 := List.length_filter_le _ _

/-! ### a run -/
def marked (a : Act) (m b : Mk) (n : Int) : Mk := match a with
  | .ok | .done => if m = .non then .good else m
  | .bad | .die => match m with | .bad k => .bad k | _ => .bad n
  | .reset => b
  | _ => m
def stops (a : Act) (m : Mk) : Bool := decide (a = .die) || (decide (a = .done) && decide (m = .good))
def hop : Act → Nat
  | .jump n => n
  | _ => 0
/-- from: the mark at the stack's begin, the entries to be left out, the first rule's number, the mark -/
def run (f : Nm → Res) : Tr → Mk → Nat → Int → Mk → Mk
  | .nil, _, _, _, m => m
  | .rule _ _ r, b, k + 1, s, m => run f r b k (s + 1) m
  | .rule n a r, b, 0, s, m => if stops (a (f n)) (marked (a (f n)) m b s) = true then marked (a (f n)) m b s else run f r b (hop (a (f n))) (s + 1) (marked (a (f n)) m b s)
  | .stk i r, b, k + 1, s, m => run f r b k (s + (i.count : Int)) m
  | .stk i r, b, 0, s, m => run f r b 0 (s + (i.count : Int)) (run f i m 0 s m)
def out (f : Nm → Res) (t : Tr) : Bool := decide (run f t .non 0 0 .non = .good)
theorem run_congr {f g : Nm → Res} : ∀ (t : Tr) (b : Mk) (k : Nat) (s : Int) (m : Mk), (∀ n, t.has n = true → f n = g n) → run f t b k s m = run g t b k s m
  | .nil, _, _, _, _, _ => rfl
  | .rule n a r, b, k + 1, s, m, h => by
    simp only [run]
    exact run_congr r b k (s + 1) m fun n' hn => h n' (by simp [Tr.has, hn])
  | .rule n a r, b, 0, s, m, h => by
    have e : f n = g n := h n (by simp [Tr.has])
    simp only [run, e]
    split
    · rfl
    · exact run_congr r b _ _ _ fun n' hn => h n' (by simp [Tr.has, hn])
  | .stk i r, b, k + 1, s, m, h => by
    simp only [run]
    exact run_congr r b k _ m fun n' hn => h n' (by simp [Tr.has, hn])
  | .stk i r, b, 0, s, m, h => by
    simp only [run]
    rw [run_congr i m 0 s m fun n' hn => h n' (by simp [Tr.has, hn])]
    exact run_congr r b 0 _ _ fun n' hn => h n' (by simp [Tr.has, hn])
theorem out_congr {f g : Nm → Res} {t : Tr} (h : ∀ n, t.has n = true → f n = g n) : out f t = out g t := by
  unfold out; rw [run_congr t _ _ _ _ h]
/-- itself wrapped -/
theorem out_wrap (f : Nm → Res) (t : Tr) : out f (.stk t .nil) = out f t := rfl

/-! ### answers -/
def Res.all : List Res := [.yes, .no, .skip, .gone]
theorem Res.mem_all (r : Res) : r ∈ Res.all := by cases r <;> decide
abbrev Ans := List (Nm × Res)
def Ans.get (a : Ans) (n : Nm) : Res := (a.lookup n).getD .yes
def more (found : List Ans) (n : Nm) : List Ans := found.flatMap fun a => Res.all.map fun r => a ++ [(n, r)]
def answers (ns : List Nm) : List Ans := ns.foldl more [[]]
theorem mem_more {found : List Ans} {n : Nm} {a : Ans} : a ∈ more found n ↔ ∃ b ∈ found, ∃ r, a = b ++ [(n, r)] := by
  simp only [more, List.mem_flatMap, List.mem_map]
  constructor
  · rintro ⟨b, hb, r, _, e⟩; exact ⟨b, hb, r, e.symm⟩
  · rintro ⟨b, hb, r, e⟩; exact ⟨b, hb, r, Res.mem_all r, e.symm⟩
theorem more_len (found : List Ans) (n : Nm) : (more found n).length = found.length * 4 := by
  simp only [more, List.length_flatMap, List.length_map]
  show (found.map fun _ => 4).sum = _
  induction found with
  | nil => rfl
  | cons a l ih => simp only [List.map_cons, List.sum_cons, List.length_cons, ih]; omega
theorem answers_from (ns : List Nm) : ∀ (found : List Ans) (a : Ans), a ∈ ns.foldl more found ↔ ∃ b ∈ found, ∃ c : Ans, a = b ++ c ∧ c.map (·.1) = ns := by
  induction ns with
  | nil =>
    intro found a
    simp only [List.foldl_nil]
    constructor
    · intro h; exact ⟨a, h, [], by simp, rfl⟩
    · rintro ⟨b, hb, c, e, hc⟩
      have : c = [] := by simpa using hc
      subst this; rw [e, List.append_nil]; exact hb
  | cons n ns ih =>
    intro found a
    rw [List.foldl_cons, ih]
    constructor
    · rintro ⟨b, hb, c, e, hc⟩
      obtain ⟨b', hb', r, eb⟩ := mem_more.mp hb
      exact ⟨b', hb', (n, r) :: c, by rw [e, eb]; simp, by simp [hc]⟩
    · rintro ⟨b, hb, c, e, hc⟩
      cases c with
      | nil => cases hc
      | cons p c =>
        obtain ⟨n', r⟩ := p
        simp only [List.map_cons, List.cons.injEq] at hc
        obtain ⟨rfl, hc⟩ := hc
        exact ⟨b ++ [(n', r)], mem_more.mpr ⟨b, hb, r, rfl⟩, c, by rw [e]; simp, hc⟩
theorem mem_answers {ns : List Nm} {a : Ans} : a ∈ answers ns ↔ a.map (·.1) = ns := by
  unfold answers
  rw [answers_from]
  constructor
  · rintro ⟨b, hb, c, e, hc⟩
    have : b = [] := by simpa using hb
    subst this; rw [e, List.nil_append]; exact hc
  · intro h; exact ⟨[], by simp, a, by simp, h⟩
theorem foldl_more_len (ns : List Nm) : ∀ found : List Ans, (ns.foldl more found).length = found.length * 4 ^ ns.length := by
  induction ns with
  | nil => intro f; simp
  | cons n ns ih => intro f; rw [List.foldl_cons, ih, more_len, List.length_cons, Nat.pow_succ, Nat.mul_assoc, Nat.mul_comm 4]
theorem answers_len (ns : List Nm) : (answers ns).length = 4 ^ ns.length := by
  unfold answers; rw [foldl_more_len]; simp
theorem lookup_of {a : Ans} : ∀ {n : Nm}, (a.map (·.1)).Nodup → ∀ r, (n, r) ∈ a → a.get n = r := by
  intro n hn r h
  unfold Ans.get
  induction a with
  | nil => cases h
  | cons p a ih =>
    obtain ⟨n', r'⟩ := p
    simp only [List.map_cons, List.nodup_cons] at hn
    rw [List.lookup_cons]
    rcases List.mem_cons.mp h with e | h
    · cases e; simp
    · have hne : n ≠ n' := fun e => hn.1 (by rw [← e]; exact List.mem_map.mpr ⟨(n, r), h, rfl⟩)
      have : (n == n') = false := by simpa using hne
      rw [this]
      exact ih hn.2 h
/-- every choice stands among the answers -/
theorem answers_of (ns : List Nm) (hn : ns.Nodup) (f : Nm → Res) : ∃ a ∈ answers ns, ∀ n ∈ ns, a.get n = f n := by
  refine ⟨ns.map fun n => (n, f n), mem_answers.mpr (by simp [Function.comp_def]), fun n hm => ?_⟩
  exact lookup_of (by simpa [Function.comp_def] using hn) _ (List.mem_map.mpr ⟨n, hm, rfl⟩)

/-! ### likeness -/
def Like (s t : Tr) : Prop := ∀ f : Nm → Res, out f s = out f t
/-- the first answers that lead elsewhere, and where they lead in the first -/
def firstDiff (s t : Tr) : List Ans → Option (Ans × Bool)
  | [] => none
  | a :: l => if out a.get s = out a.get t then firstDiff s t l else some (a, out a.get s)
theorem firstDiff_none {s t : Tr} : ∀ {l : List Ans}, firstDiff s t l = none ↔ ∀ a ∈ l, out a.get s = out a.get t
  | [] => by simp [firstDiff]
  | a :: l => by
    simp only [firstDiff, List.mem_cons]
    split
    · rename_i h
      rw [firstDiff_none]
      constructor
      · rintro h' b (rfl | hb)
        · exact h
        · exact h' b hb
      · intro h' b hb; exact h' b (.inr hb)
    · rename_i h
      constructor
      · intro z; cases z
      · intro h'; exact absurd (h' a (.inl rfl)) h
theorem like_iff {s t : Tr} {ns : List Nm} (hn : ns.Nodup) (hs : ∀ n, s.has n = true → n ∈ ns) (ht : ∀ n, t.has n = true → n ∈ ns) :
    (∀ a ∈ answers ns, out a.get s = out a.get t) ↔ Like s t := by
  constructor
  · intro h f
    obtain ⟨a, ha, e⟩ := answers_of ns hn f
    have h1 : out f s = out a.get s := out_congr fun n hn' => (e n (hs n hn')).symm
    have h2 : out f t = out a.get t := out_congr fun n hn' => (e n (ht n hn')).symm
    rw [h1, h2]; exact h a ha
  · intro h a _; exact h _
def diff (s t : Tr) : Option (Ans × Bool) := firstDiff s t (answers (both s t))
theorem diff_none {s t : Tr} : diff s t = none ↔ Like s t := by
  unfold diff
  rw [firstDiff_none]
  exact like_iff (both_nodup s t) (fun n h => mem_both.mpr (.inl h)) fun n h => mem_both.mpr (.inr h)
/-- where a stack is led by all answers of some names -/
def led (ns : List Nm) (t : Tr) : List Bool := (answers ns).map fun a => out a.get t
theorem led_eq {s t : Tr} {ns : List Nm} (hn : ns.Nodup) (hs : ∀ n, s.has n = true → n ∈ ns) (ht : ∀ n, t.has n = true → n ∈ ns) : led ns s = led ns t ↔ Like s t := by
  rw [← like_iff hn hs ht]
  unfold led
  constructor
  · intro h a ha
    obtain ⟨i, hi, e⟩ := List.getElem_of_mem ha
    have h1 := congrArg (fun l => l[i]?) h
    simp only [List.getElem?_map, List.getElem?_eq_getElem hi, Option.map_some, Option.some.injEq] at h1
    rw [← e]; exact h1
  · intro h
    exact List.map_congr_left h
/-! ### without some rules -/
def Tr.isNil : Tr → Bool
  | .nil => true
  | _ => false
theorem Tr.isNil_iff {t : Tr} : t.isNil = true ↔ t = .nil := by cases t <;> simp [Tr.isNil]
def keep (ks : Int → Bool) : Tr → Int → Tr
  | .nil, _ => .nil
  | .rule n a r, s => if ks s = true then keep ks r (s + 1) else .rule n a (keep ks r (s + 1))
  | .stk i r, s => if ((keep ks i s).isNil && !i.isNil) = true then keep ks r (s + (i.count : Int)) else .stk (keep ks i s) (keep ks r (s + (i.count : Int)))
theorem keep_none : ∀ (t : Tr) (s : Int), keep (fun _ => false) t s = t
  | .nil, _ => rfl
  | .rule n a r, s => by simp [keep, keep_none r]
  | .stk i r, s => by
    simp only [keep, keep_none i, keep_none r]
    split
    · rename_i h; simp at h
    · rfl
theorem keep_count (ks : Int → Bool) : ∀ (t : Tr) (s : Int), (keep ks t s).count ≤ t.count
  | .nil, _ => Nat.le_refl _
  | .rule n a r, s => by
    have h := keep_count ks r (s + 1)
    simp only [keep]; split <;> simp only [Tr.count] <;> omega
  | .stk i r, s => by
    have h1 := keep_count ks i s
    have h2 := keep_count ks r (s + (i.count : Int))
    simp only [keep]; split <;> simp only [Tr.count] <;> omega
theorem keep_len (ks : Int → Bool) : ∀ (t : Tr) (s : Int), (keep ks t s).len ≤ t.len
  | .nil, _ => Nat.le_refl _
  | .rule n a r, s => by
    have h := keep_len ks r (s + 1)
    simp only [keep]; split <;> simp only [Tr.len] <;> omega
  | .stk i r, s => by
    have h2 := keep_len ks r (s + (i.count : Int))
    simp only [keep]; split <;> simp only [Tr.len] <;> omega
theorem keep_depth (ks : Int → Bool) : ∀ (t : Tr) (s : Int), (keep ks t s).depth ≤ t.depth
  | .nil, _ => Nat.le_refl _
  | .rule n a r, s => by
    have h := keep_depth ks r (s + 1)
    simp only [keep]; split <;> simp only [Tr.depth] <;> omega
  | .stk i r, s => by
    have h1 := keep_depth ks i s
    have h2 := keep_depth ks r (s + (i.count : Int))
    simp only [keep]; split <;> simp only [Tr.depth] <;> omega
theorem keep_has (ks : Int → Bool) (m : Nm) : ∀ (t : Tr) (s : Int), (keep ks t s).has m = true → t.has m = true
  | .nil, _, h => h
  | .rule n a r, s, h => by
    have ih := keep_has ks m r (s + 1)
    simp only [keep] at h
    split at h
    · simp [Tr.has, ih h]
    · simp only [Tr.has, Bool.or_eq_true] at h ⊢
      exact h.imp id ih
  | .stk i r, s, h => by
    have ih1 := keep_has ks m i s
    have ih2 := keep_has ks m r (s + (i.count : Int))
    simp only [keep] at h
    split at h
    · simp [Tr.has, ih2 h]
    · simp only [Tr.has, Bool.or_eq_true] at h ⊢
      exact h.imp ih1 ih2
end Ka

set_option Elab.async false
set_option linter.all false
set_option maxRecDepth 100000
/-! The text by places, the names by slots, what the top has left. -/
namespace Kb
open PySem L2
def topS (i : Nat) : Stmt := PySem.Challenge.pw_loginstacks_k72_whole_suspects_and_least.main.body.getD i (.Pass ⟨0, 0, 0, 0⟩)
/-- a def of the module that may be called by its name -/
def DefB (K : PySem.W.Frag) (mg : Str → Option Value) (x : Str) (st : Stmt) (ps : List Str) : Prop := ∃ f fd, C8.Def K mg x st f fd ∧ Binds K fd ps []
def MetB (K : PySem.W.Frag) (C : Addr) (m qual : Str) (st : Stmt) (ps : List Str) : Prop := ∃ f fd, Meth K C m f ∧ C8.Fun K m qual st f fd ∧ Binds K fd ps []
def MakB (K : PySem.W.Frag) (C : Addr) (qual : Str) (st : Stmt) (ps : List Str) : Prop := ∃ f fd, Mk K C f ∧ C8.Fun K "__init__" qual st f fd ∧ Binds K fd ps []
def PrpB (K : PySem.W.Frag) (C : Addr) (m qual : Str) (st : Stmt) : Prop := ∃ p f fd, PropOf K C m p f ∧ C8.Fun K m qual st f fd ∧ Binds K fd ["self"] []
/-- a written tuple of the module -/
def TupB (K : PySem.W.Frag) (mg : Str → Option Value) (x : Str) (a : Addr) (xs : List V) : Prop := mg x = some (.ref a) ∧ ∃ (o : Obj) (its : Array Value) (n : Nat), K.lookup a = some o ∧ o.cls = .type "tuple" ∧ o.dict = none ∧ o.data = .seq its n ∧ its.size ≤ sizeLine ∧ Vals xs its.toList
theorem TupB.t {K : PySem.W.Frag} {mg : Str → Option Value} {x : Str} {a : Addr} {xs : List V} (h : TupB K mg x a xs) (H : Hp) : SqT K H a xs := by
  obtain ⟨_, o, its, n, h1, h2, h3, h4, h5, h6⟩ := h
  exact .inr ⟨o, its, n, h1, h2, h4, h5, h6⟩
theorem TupB.ty {K : PySem.W.Frag} {mg : Str → Option Value} {x : Str} {a : Addr} {xs : List V} (h : TupB K mg x a xs) (H : Hp) : tyV K "tuple" (.ref a) H := by
  obtain ⟨_, o, its, n, h1, h2, h3, h4, h5, h6⟩ := h
  exact .inr (.inl ⟨rfl, o, h1, h2, h3⟩)
def GV (mg : Str → Option Value) (x : Str) (v : V) : Prop := ∃ u, mg x = some u ∧ RelV v u

abbrev sIsNumber : Stmt := topS 28
abbrev sIsWord : Stmt := topS 29
abbrev sIsAction : Stmt := topS 30
abbrev sTableOf : Stmt := topS 31
abbrev sRuleInit : Stmt := inClass (topS 32) 0
abbrev sActionFor : Stmt := inClass (topS 32) 5
abbrev sStackInit : Stmt := inClass (topS 38) 0
abbrev sStackAdd : Stmt := inClass (topS 38) 7
abbrev sWithout : Stmt := inClass (topS 38) 9
abbrev sStepsOf : Stmt := topS 39
abbrev sFirstsOf : Stmt := topS 40
abbrev sKept : Stmt := topS 41
abbrev sRunInit : Stmt := inClass (topS 47) 0
abbrev sEnded : Stmt := inClass (topS 47) 1
abbrev sOutcome : Stmt := inClass (topS 47) 2
abbrev sMarked : Stmt := topS 48
abbrev sNeedAnswers : Stmt := topS 49
abbrev sAllAnswers : Stmt := topS 51
abbrev sNeedWord : Stmt := topS 53
abbrev sSplits : Stmt := topS 54
abbrev sSusInit : Stmt := inClass (topS 58) 0
abbrev sSee : Stmt := inClass (topS 58) 3
abbrev sGroups : Stmt := inClass (topS 58) 4
abbrev sBest : Stmt := inClass (topS 58) 5
abbrev sFewest : Stmt := inClass (topS 58) 6
abbrev sBothOut : Stmt := topS 60
abbrev sFirstDiff : Stmt := topS 61
abbrev sAlike : Stmt := topS 62
abbrev sSubsets : Stmt := topS 64
abbrev sLeastKept : Stmt := topS 65
abbrev sLeastStack : Stmt := topS 66
abbrev sTaken : Stmt := topS 68
abbrev sPick : Stmt := topS 69
abbrev sTable : Stmt := topS 70
abbrev sPlain : Stmt := topS 71
abbrev sRules : Stmt := topS 72
abbrev sMade : Stmt := topS 73
abbrev sLaw : Stmt := topS 74
abbrev sModules : Stmt := inClass (topS 38) 3
abbrev sRemaining : Stmt := inClass (topS 58) 1
abbrev sHistory : Stmt := inClass (topS 58) 2
theorem scIsNumber : FnScope ["thing", "low", "high"] ["thing", "low", "high"] (C8.fnScope sIsNumber) := C8.fnScope_by (by decide +kernel)
theorem scIsWord : FnScope ["thing", "letter"] ["thing"] (C8.fnScope sIsWord) := C8.fnScope_by (by decide +kernel)
theorem scIsAction : FnScope ["thing"] ["thing"] (C8.fnScope sIsAction) := C8.fnScope_by (by decide +kernel)
theorem scTableOf : FnScope ["control", "one"] ["control"] (C8.fnScope sTableOf) := C8.fnScope_by (by decide +kernel)
theorem scRuleInit : FnScope ["self", "module", "control"] ["self", "module", "control"] (C8.fnScope sRuleInit) := C8.fnScope_by (by decide +kernel)
theorem scActionFor : FnScope ["self", "result"] ["self", "result"] (C8.fnScope sActionFor) := C8.fnScope_by (by decide +kernel)
theorem scStackInit : FnScope ["self", "entries", "index", "entry", "is_stack", "rule"] ["self", "entries"] (C8.fnScope sStackInit) := C8.fnScope_by (by decide +kernel)
theorem scStackAdd : FnScope ["self", "other", "parts"] ["self", "other"] (C8.fnScope sStackAdd) := C8.fnScope_by (by decide +kernel)
theorem scWithout : FnScope ["self", "numbers", "index", "number"] ["self", "numbers"] (C8.fnScope sWithout) := C8.fnScope_by (by decide +kernel)
theorem scStepsOf : FnScope ["entry"] ["entry"] (C8.fnScope sStepsOf) := C8.fnScope_by (by decide +kernel)
theorem scFirstsOf : FnScope ["stack", "first", "found", "entry"] ["stack", "first"] (C8.fnScope sFirstsOf) := C8.fnScope_by (by decide +kernel)
theorem scKept : FnScope ["stack", "first", "numbers", "parts", "entry", "number", "inner"] ["stack", "first", "numbers"] (C8.fnScope sKept) := C8.fnScope_by (by decide +kernel)
theorem scRunInit : FnScope ["self", "stack", "results"] ["self", "stack", "results"] (C8.fnScope sRunInit) := C8.fnScope_by (by decide +kernel)
theorem scEnded : FnScope ["self", "stack", "first", "mark", "begin", "index", "firsts", "entry", "number", "action"] ["self", "stack", "first", "mark"] (C8.fnScope sEnded) := C8.fnScope_by (by decide +kernel)
theorem scOutcome : FnScope ["self"] ["self"] (C8.fnScope sOutcome) := C8.fnScope_by (by decide +kernel)
theorem scMarked : FnScope ["action", "mark", "begin", "number"] ["action", "mark", "begin", "number"] (C8.fnScope sMarked) := C8.fnScope_by (by decide +kernel)
theorem scNeedAnswers : FnScope ["modules", "answers", "is_whole", "name"] ["modules", "answers", "is_whole"] (C8.fnScope sNeedAnswers) := C8.fnScope_by (by decide +kernel)
theorem scAllAnswers : FnScope ["modules", "found", "name", "answers", "result"] ["modules"] (C8.fnScope sAllAnswers) := C8.fnScope_by (by decide +kernel)
theorem scNeedWord : FnScope ["word"] ["word"] (C8.fnScope sNeedWord) := C8.fnScope_by (by decide +kernel)
theorem scSplits : FnScope ["rows", "known", "key", "best", "columns", "column", "parts", "side", "row", "word", "part"] ["rows", "known"] (C8.fnScope sSplits) := C8.fnScope_by (by decide +kernel)
theorem scSusInit : FnScope ["self", "stacks", "index", "stack", "answers"] ["self", "stacks"] (C8.fnScope sSusInit) := C8.fnScope_by (by decide +kernel)
theorem scSee : FnScope ["self", "answers", "word", "column", "left", "index"] ["self", "answers", "word"] (C8.fnScope sSee) := C8.fnScope_by (by decide +kernel)
theorem scGroups : FnScope ["self", "found", "index"] ["self"] (C8.fnScope sGroups) := C8.fnScope_by (by decide +kernel)
theorem scBest : FnScope ["self", "worst", "column", "words", "index"] ["self"] (C8.fnScope sBest) := C8.fnScope_by (by decide +kernel)
theorem scFewest : FnScope ["self", "index"] ["self"] (C8.fnScope sFewest) := C8.fnScope_by (by decide +kernel)
theorem scBothOut : FnScope ["one", "other", "names", "answers"] ["one", "other"] (C8.fnScope sBothOut) := C8.fnScope_by (by decide +kernel)
theorem scFirstDiff : FnScope ["one", "other", "answers", "here", "there"] ["one", "other"] (C8.fnScope sFirstDiff) := C8.fnScope_by (by decide +kernel)
theorem scAlike : FnScope ["one", "other"] ["one", "other"] (C8.fnScope sAlike) := C8.fnScope_by (by decide +kernel)
theorem scSubsets : FnScope ["count", "size", "found", "turn", "longer", "some", "number"] ["count", "size"] (C8.fnScope sSubsets) := C8.fnScope_by (by decide +kernel)
theorem scLeastKept : FnScope ["stack", "count", "size", "some", "number"] ["stack"] (C8.fnScope sLeastKept) := C8.fnScope_by (by decide +kernel)
theorem scLeastStack : FnScope ["stack", "some", "number"] ["stack"] (C8.fnScope sLeastStack) := C8.fnScope_by (by decide +kernel)
theorem scTaken : FnScope ["_law_row", "_law_many", "_law_found", "_law_cell"] ["_law_row", "_law_many"] (C8.fnScope sTaken) := C8.fnScope_by (by decide +kernel)
theorem scPick : FnScope ["_law_row", "_law_some"] ["_law_row", "_law_some"] (C8.fnScope sPick) := C8.fnScope_by (by decide +kernel)
theorem scTable : FnScope ["_law_row", "_law_plain_here", "_law_words", "_law_acts", "_law_k"] ["_law_row", "_law_plain_here"] (C8.fnScope sTable) := C8.fnScope_by (by decide +kernel)
theorem scPlain : FnScope ["_law_row", "_law_names", "_law_most", "_law_deep", "_law_plain_here", "_law_found", "_law_left", "_law_k", "_law_inner"] ["_law_row", "_law_names", "_law_most", "_law_deep", "_law_plain_here"] (C8.fnScope sPlain) := C8.fnScope_by (by decide +kernel)
theorem scRules : FnScope ["_law_plain_here", "_law_found", "_law_entry"] ["_law_plain_here"] (C8.fnScope sRules) := C8.fnScope_by (by decide +kernel)
theorem scMade : FnScope ["_law_plain_here", "_law_found", "_law_entry"] ["_law_plain_here"] (C8.fnScope sMade) := C8.fnScope_by (by decide +kernel)
theorem scLaw : FnScope ["_law_script", "_law_row", "_law_plain_here", "_law_other", "_law_stack", "_law_second", "_law_stacks", "_law_suspects", "_law_due", "_law_index", "_law_same", "_law_parted", "_law_best", "_law_names", "_law_group", "_law_name"] ["_law_script"] (C8.fnScope sLaw) := C8.fnScope_by (by decide +kernel)
theorem scModules : FnScope ["self"] ["self"] (C8.fnScope sModules) := C8.fnScope_by (by decide +kernel)
theorem scRemaining : FnScope ["self"] ["self"] (C8.fnScope sRemaining) := C8.fnScope_by (by decide +kernel)
theorem scHistory : FnScope ["self", "answers", "word"] ["self"] (C8.fnScope sHistory) := C8.fnScope_by (by decide +kernel)
/-- the addresses of the classes and of the written tuples -/
structure Ad where
  cRule : Addr
  cStack : Addr
  cRun : Addr
  cSuspects : Addr
  aRESULTS : Addr
  aACTIONS : Addr
  aNONE : Addr
  aGOOD : Addr
structure Tx (K : PySem.W.Frag) (mg : Str → Option Value) (a : Ad) : Prop where
  kRule : Cls K a.cRule
  gRule : mg "Rule" = some (.ref a.cRule)
  nRule_asks : NoAttr K a.cRule "asks"
  nRule_acts : NoAttr K a.cRule "acts"
  kStack : Cls K a.cStack
  gStack : mg "Stack" = some (.ref a.cStack)
  nStack_parts : NoAttr K a.cStack "parts"
  nStack_steps : NoAttr K a.cStack "steps"
  nStack_names : NoAttr K a.cStack "names"
  nStack_depth : NoAttr K a.cStack "depth"
  kRun : Cls K a.cRun
  gRun : mg "Run" = some (.ref a.cRun)
  nRun_told : NoAttr K a.cRun "told"
  nRun_asked_rules : NoAttr K a.cRun "asked_rules"
  nRun_mark : NoAttr K a.cRun "mark"
  kSuspects : Cls K a.cSuspects
  gSuspects : mg "Suspects" = some (.ref a.cSuspects)
  nSuspects_all_names : NoAttr K a.cSuspects "all_names"
  nSuspects_all_rows : NoAttr K a.cSuspects "all_rows"
  nSuspects_led_words : NoAttr K a.cSuspects "led_words"
  nSuspects_left : NoAttr K a.cSuspects "left"
  nSuspects_facts : NoAttr K a.cSuspects "facts"
  iRule : C8.InsC K a.cRule
  iStack : C8.InsC K a.cStack
  ruleNotStack : PySem.W.kitOne K (.ref a.cRule) (.ref a.cStack) = some false
  stackSelf : PySem.W.selfFirst K a.cStack = true
  dIsNumber : DefB K mg "is_number" sIsNumber ["thing", "low", "high"]
  dIsWord : DefB K mg "is_word" sIsWord ["thing"]
  dIsAction : DefB K mg "is_action" sIsAction ["thing"]
  dTableOf : DefB K mg "table_of" sTableOf ["control"]
  dRuleInit : MakB K a.cRule "Rule.__init__" sRuleInit ["self", "module", "control"]
  dActionFor : MetB K a.cRule "action_for" "Rule.action_for" sActionFor ["self", "result"]
  dStackInit : ∃ f fd, Mk K a.cStack f ∧ C8.Fun K "__init__" "Stack.__init__" sStackInit f fd ∧ ∀ us rest : List Value, us.length = (["self"] : List Str).length → bindArgs fd ⟨us ++ rest, []⟩ = (newTuple rest >>= fun t => pure ((["self"] : List Str).zip us ++ [(("entries" : Str), t)]))
  dStackAdd : MetB K a.cStack "__add__" "Stack.__add__" sStackAdd ["self", "other"]
  dWithout : MetB K a.cStack "without" "Stack.without" sWithout ["self", "numbers"]
  dStepsOf : DefB K mg "steps_of" sStepsOf ["entry"]
  dFirstsOf : DefB K mg "firsts_of" sFirstsOf ["stack", "first"]
  dKept : DefB K mg "kept" sKept ["stack", "first", "numbers"]
  dRunInit : MakB K a.cRun "Run.__init__" sRunInit ["self", "stack", "results"]
  dEnded : MetB K a.cRun "ended" "Run.ended" sEnded ["self", "stack", "first", "mark"]
  dOutcome : MetB K a.cRun "outcome" "Run.outcome" sOutcome ["self"]
  dMarked : DefB K mg "marked" sMarked ["action", "mark", "begin", "number"]
  dNeedAnswers : DefB K mg "need_answers" sNeedAnswers ["modules", "answers", "is_whole"]
  dAllAnswers : DefB K mg "all_answers" sAllAnswers ["modules"]
  dNeedWord : DefB K mg "need_word" sNeedWord ["word"]
  dSplits : DefB K mg "fewest_splits" sSplits ["rows", "known"]
  dSusInit : MakB K a.cSuspects "Suspects.__init__" sSusInit ["self", "stacks"]
  dSee : MetB K a.cSuspects "see" "Suspects.see" sSee ["self", "answers", "word"]
  dGroups : MetB K a.cSuspects "groups" "Suspects.groups" sGroups ["self"]
  dBest : MetB K a.cSuspects "best_answers" "Suspects.best_answers" sBest ["self"]
  dFewest : MetB K a.cSuspects "fewest_tests" "Suspects.fewest_tests" sFewest ["self"]
  dBothOut : DefB K mg "both_outcomes" sBothOut ["one", "other"]
  dFirstDiff : DefB K mg "first_difference" sFirstDiff ["one", "other"]
  dAlike : DefB K mg "alike" sAlike ["one", "other"]
  dSubsets : DefB K mg "subsets" sSubsets ["count", "size"]
  dLeastKept : DefB K mg "least_kept" sLeastKept ["stack"]
  dLeastStack : DefB K mg "least_stack" sLeastStack ["stack"]
  dTaken : DefB K mg "_law_taken" sTaken ["_law_row", "_law_many"]
  dPick : DefB K mg "_law_pick" sPick ["_law_row", "_law_some"]
  dTable : DefB K mg "_law_table" sTable ["_law_row", "_law_plain_here"]
  dPlain : DefB K mg "_law_plain" sPlain ["_law_row", "_law_names", "_law_most", "_law_deep", "_law_plain_here"]
  dRules : DefB K mg "_law_rules" sRules ["_law_plain_here"]
  dMade : DefB K mg "_law_made" sMade ["_law_plain_here"]
  dLaw : DefB K mg "law" sLaw ["_law_script"]
  dModules : PrpB K a.cStack "modules" "Stack.modules" sModules
  dRemaining : PrpB K a.cSuspects "remaining" "Suspects.remaining" sRemaining
  dHistory : PrpB K a.cSuspects "history" "Suspects.history" sHistory
  vYES : GV mg "YES" (.str "yes")
  vNO : GV mg "NO" (.str "no")
  vSKIP : GV mg "SKIP" (.str "skip")
  vGONE : GV mg "GONE" (.str "gone")
  vOK : GV mg "OK" (.str "ok")
  vBAD : GV mg "BAD" (.str "bad")
  vDIE : GV mg "DIE" (.str "die")
  vDONE : GV mg "DONE" (.str "done")
  vIGNORE : GV mg "IGNORE" (.str "ignore")
  vRESET : GV mg "RESET" (.str "reset")
  vLETTERS : GV mg "LETTERS" (.str "abcdefghijklmnopqrstuvwxyz")
  vIN : GV mg "IN" (.str "in")
  vOUT : GV mg "OUT" (.str "out")
  vMOST_JUMP : GV mg "MOST_JUMP" (.int 9)
  vMOST_LETTERS : GV mg "MOST_LETTERS" (.int 8)
  vMOST_ENTRIES : GV mg "MOST_ENTRIES" (.int 12)
  vMOST_RULES : GV mg "MOST_RULES" (.int 12)
  vMOST_MODULES_stacks : GV mg "MOST_MODULES_stacks" (.int 6)
  vMOST_DEPTH : GV mg "MOST_DEPTH" (.int 3)
  vMOST_STACKS : GV mg "MOST_STACKS" (.int 6)
  vMOST_MODULES_suspects : GV mg "MOST_MODULES_suspects" (.int 5)
  vRESULTS : TupB K mg "RESULTS" a.aRESULTS [.str "yes", .str "no", .str "skip", .str "gone"]
  vACTIONS : TupB K mg "ACTIONS" a.aACTIONS [.str "ok", .str "bad", .str "die", .str "done", .str "ignore", .str "reset"]
  vNONE : TupB K mg "NONE" a.aNONE [.str "none", .non]
  vGOOD : TupB K mg "GOOD" a.aGOOD [.str "good", .non]
  b_len : mg "len" = none
  b_isinstance : mg "isinstance" = none
  b_int : mg "int" = none
  b_str : mg "str" = none
  b_bool : mg "bool" = none
  b_tuple : mg "tuple" = none
  b_list : mg "list" = none
  b_set : mg "set" = none
  b_sorted : mg "sorted" = none
  b_range : mg "range" = none
  b_enumerate : mg "enumerate" = none
  b_zip : mg "zip" = none
  b_max : mg "max" = none
  b_min : mg "min" = none
  b_all : mg "all" = none
  b_dict : mg "dict" = none
end Kb

set_option Elab.async false
set_option linter.all false
set_option maxRecDepth 100000
set_option maxHeartbeats 4000000
/-! Short words over the layer. -/
namespace Kb
open PySem PySem.Spec PyProof.Rows L2 Evl
section
variable {P : Program} {w : World} {K : PySem.W.Frag} {mg : Str → Option Value} {base : Heap}
theorem cal_of {x : Str} {st : Stmt} {N ps : List Str} {k : Nat} {sp : Sp} (D : DefB K mg x st ps) (S : FnScope N ps (C8.fnScope st)) (len : ∀ vs H Q E, sp vs H Q E → vs.length = ps.length)
    (hbody : ∀ (f : Addr) (cdv : Value) (A : Around) (outer : List Env) (s : Shared) (H : Hp) (vs : List V) (Q : VK) (E : XK), Room k (A.deeper (envOfC x (C8.fnScope st) s.heap.objs.size f cdv)) → sp vs H Q E →
      ∃ t, PSs (cxOf C8.CX0 P w K mg base N x (C8.fnScope st) f cdv A outer s H E).nox (C8.fnBody st) t ∧ t { nx := fun _ H' => Q .non H', rt := Q } (start N vs) H) : C8.Cal P w K mg base (k + 1) x sp [] := by
  obtain ⟨f, fd, F, b⟩ := D
  exact C8.cal0 F b .nil S len (hbody f)
theorem met_of {C : Addr} {m qual : Str} {st : Stmt} {N ps : List Str} {k : Nat} {sp : Sp} (c : Cls K C) (D : MetB K C m qual st ps) (S : FnScope N ps (C8.fnScope st)) (len : ∀ vs H Q E, sp vs H Q E → vs.length = ps.length)
    (hbody : ∀ (f : Addr) (cdv : Value) (A : Around) (outer : List Env) (s : Shared) (H : Hp) (vs : List V) (Q : VK) (E : XK), Room k (A.deeper (envOfC qual (C8.fnScope st) s.heap.objs.size f cdv)) → sp vs H Q E →
      ∃ t, PSs (cxOf C8.CX0 P w K mg base N qual (C8.fnScope st) f cdv A outer s H E).nox (C8.fnBody st) t ∧ t { nx := fun _ H' => Q .non H', rt := Q } (start N vs) H) : C8.Met P w K mg base (k + 1) C m sp [] := by
  obtain ⟨f, fd, me, F, b⟩ := D
  exact C8.met0 c me F b S len (hbody f)
theorem mak_of {C : Addr} {x qual : Str} {st : Stmt} {N ps : List Str} {k : Nat} {sp : Sp} (D : MakB K C qual st ps) (hm : mg x = some (.ref C)) (S : FnScope N ps (C8.fnScope st)) (len : ∀ vs H Q E, sp vs H Q E → vs.length = ps.length)
    (hbody : ∀ (f : Addr) (cdv : Value) (A : Around) (outer : List Env) (s : Shared) (H : Hp) (vs : List V) (Q : VK) (E : XK), Room k (A.deeper (envOfC qual (C8.fnScope st) s.heap.objs.size f cdv)) → sp vs H Q E →
      ∃ t, PSs (cxOf C8.CX0 P w K mg base N qual (C8.fnScope st) f cdv A outer s H E).nox (C8.fnBody st) t ∧ t { nx := fun _ H' => Q .non H', rt := Q } (start N vs) H) : C8.Mak P w K mg base (k + 1) x C sp [] := by
  obtain ⟨f, fd, M, F, b⟩ := D
  exact C8.mak0 M hm F b .nil S len (hbody f)
theorem Cal.mono {j k : Nat} {x : Str} {sp : Sp} {dvs : List V} (c : C8.Cal P w K mg base j x sp dvs) (h : j ≤ k) : C8.Cal P w K mg base k x sp dvs := by
  obtain ⟨f, fd, ps, ds, F, r⟩ := c.ex
  exact ⟨f, fd, ps, ds, F.mono h, r⟩
end
/-- a value of the module -/
theorem pg {X : Cx} {x : Str} {v : V} {pos : Pos} (h : GV X.mg x v) (hg : Gl X x := by rfl) (hd : (x == ("__debug__" : Str)) = false := by decide) : PE X (.Name x pos) (tC v) := C8.pe_gc hg h hd
theorem pt {X : Cx} {x : Str} {a : Addr} {xs : List V} {pos : Pos} (h : TupB X.K X.mg x a xs) (hg : Gl X x := by rfl) (hd : (x == ("__debug__" : Str)) = false := by decide) : PE X (.Name x pos) (tC (.ref a)) := C8.pe_gc hg ⟨_, h.1, rfl⟩ hd

/-- is_number -/
def spIsNumber : Sp := fun vs H Q _ => ∃ n lo hi : Int, vs = [.int n, .int lo, .int hi] ∧ Q (.bl (decide (lo ≤ n) && decide (n ≤ hi))) H
section
variable {P : Program} {w : World} {K : PySem.W.Frag} {mg : Str → Option Value} {base : Heap} {a : Ad}
theorem ok_is_number (T : Tx K mg a) : C8.Cal P w K mg base 1 "is_number" spIsNumber [] := by
  refine cal_of T.dIsNumber scIsNumber (fun vs H Q E h => ?_) (fun f cdv A outer s H vs Q E hr h => ?_)
  · obtain ⟨n, lo, hi, rfl, _⟩ := h; rfl
  · obtain ⟨n, lo, hi, rfl, k⟩ := h
    refine ⟨_, pss_one (ps_ret (pe_and (pe_callB call_isi (by rfl) T.b_isinstance PyProof.Rows.boot_isinstance (pa_cons (pv 0) (pa_cons (pe_bltn (v := .ty "int") (by rfl) T.b_int PyProof.Rows.boot_int rfl) pa_nil)))
      (pe_and (pe_not (pe_callB call_isi (by rfl) T.b_isinstance PyProof.Rows.boot_isinstance (pa_cons (pv 0) (pa_cons (pe_bltn (v := .ty "bool") (by rfl) T.b_bool PyProof.Rows.boot_bool rfl) pa_nil))))
        (pe_one (pe_chain op_le op_le (pv 1) (pv 0) (pv 2)))))), ?_⟩
    refine ⟨_, rfl, _, _, _, _, true, rfl, .ty "int", .base (.int _), kit_ty (by decide +kernel), _, rfl, iteT ?_⟩
    refine ⟨_, rfl, _, _, _, _, false, rfl, .ty "bool", .base (.int _), kit_ty (by decide +kernel), _, rfl, true, rfl, iteT ?_⟩
    refine ⟨_, rfl, _, rfl, lo, n, rfl, rfl, _, rfl, ?_⟩
    by_cases h1 : lo ≤ n
    · rw [decide_eq_true h1] at k ⊢
      exact iteT ⟨_, rfl, n, hi, rfl, rfl, k⟩
    · rw [decide_eq_false h1] at k ⊢
      exact iteF k
end
end Kb

set_option Elab.async false
set_option linter.all false
set_option maxRecDepth 100000
set_option maxHeartbeats 4000000
/-! Words, actions, rules. -/
namespace Kb
open PySem PySem.Spec PyProof.Rows L2 Evl
open Ka (Nm Res Mk Tr)
def nmS : Nm → Str
  | .card => "card" | .key => "key" | .pin => "pin"
def resS : Res → Str
  | .yes => "yes" | .no => "no" | .skip => "skip" | .gone => "gone"
def actV : Ka.Act → V
  | .ok => .str "ok" | .bad => .str "bad" | .die => .str "die" | .done => .str "done" | .ign => .str "ignore" | .reset => .str "reset" | .jump n => .int n
def acts (a : Res → Ka.Act) : List V := [actV (a .yes), actV (a .no), actV (a .skip), actV (a .gone)]
def ActOk : Ka.Act → Prop
  | .jump n => 1 ≤ n ∧ n ≤ 9
  | _ => True
/-! ### heaps: all but lists stay -/
def isL : HO → Bool
  | .lst _ => true
  | _ => false
def NL (H H' : Hp) : Prop := ∀ b o, H b = some o → isL o = false → H' b = some o
theorem NL.refl (H : Hp) : NL H H := fun _ _ h _ => h
theorem NL.trans {H H1 H2 : Hp} (a : NL H H1) (b : NL H1 H2) : NL H H2 := fun x o h n => b x o (a x o h n) n
theorem NL.of {H H' : Hp} (e : Ex H H') : NL H H' := fun b o h _ => e b o h
theorem NL.put {H H' : Hp} {p : Addr} {xs : List V} {o : HO} (e : NL H H') (h : H' p = some (.lst xs)) : NL H (upd H' p o) := fun b u hb hn => by
  have q := e b u hb hn
  rw [upd_ne (fun z => by subst z; rw [h] at q; cases q; cases hn)]
  exact q
theorem NL.new {H H' : Hp} {p : Addr} {o : HO} (e : NL H H') (h : H' p = none) : NL H (upd H' p o) := fun b u hb hn => by
  have q := e b u hb hn
  rw [upd_ne (ne_of_none q h)]
  exact q
theorem NL.t {K : PySem.W.Frag} {H H' : Hp} {a : Addr} {xs : List V} (e : NL H H') (h : SqT K H a xs) : SqT K H' a xs := by
  rcases h with (h | ⟨o, h⟩) | h
  · exact .inl (.inl (e a _ h rfl))
  · exact .inl (.inr ⟨o, e a _ h rfl⟩)
  · exact .inr h
/-- a comprehension over a walk that only makes objects: y i stands for the i-th turn, as Pm says of any heap whose objects but lists stand -/
theorem lc_all {J : It} {n : Nat} {G : Hp → Prop} {Y : Nat → Hp → V → Hp → Prop} (w : Walk J n G Y) {g : TG} {te : TE} {vs : List Nat} {σ : L2.St} {H1 : Hp} {D : Addr} {Qd : Hp → Prop} (hn : n ≤ 100000) (hD : H1 D = none)
    (Pm : Nat → V → Hp → Prop) (mono : ∀ i v H H', NL H H' → Pm i v H → Pm i v H') (hG : ∀ H, Ex H1 H → G H)
    (hs : ∀ i x H H', i < n → Ex H1 H → Y i H x H' → ∀ R : V → Hp → Prop, (∀ y H3, Ex H H3 → Pm i y H3 → R y H3) → g x (wipe σ vs) H' fun σ2 H2 => wipe σ2 vs = wipe σ vs ∧ te σ2 H2 R)
    (hd : ∀ (ys : List V) H, Ex H1 H → H D = some (.lst ys) → ys.length = n → (∀ i y, ys[i]? = some y → Pm i y H) → Qd H) :
    ∃ W : Nat → Nat → Hp → Prop, (∃ m, W 0 m (upd H1 D (.lst []))) ∧ ∀ i m H, W i m H →
      (J.stop i H ∧ Qd H) ∨ (J.go i H ∧ ∃ Nx : Hp → Prop, (∀ H', Nx H' → ∃ m', m' < m ∧ W (i + 1) m' H') ∧ ∀ x H', J.yld i H x H' → g x (wipe σ vs) H' fun σ2 H2 => wipe σ2 vs = wipe σ vs ∧ tYes σ2 H2 fun b H3 =>
        if b = true then te σ2 H3 fun y H4 => ∃ acc, H4 D = some (.lst acc) ∧ acc.length < sizeLine ∧ Nx (upd H4 D (.lst (acc ++ [y]))) else Nx H3) := by
  refine lc_it w (fun i H => ∃ ys : List V, Ex H1 H ∧ H D = some (.lst ys) ∧ ys.length = i ∧ ∀ j y, ys[j]? = some y → Pm j y H) ⟨[], Ex.new hD, upd_same, rfl, fun j y h => by simp at h⟩ (fun i H _ ⟨ys, e, _⟩ => hG H e) ?_ (fun H ⟨ys, e, hl, ln, p⟩ => hd ys H e hl ln p)
  rintro i x H H' hi ⟨ys, e, hl, ln, p⟩ hy
  have z := hs i x H H' hi e hy (fun y H4 => ∃ acc, H4 D = some (.lst acc) ∧ acc.length < sizeLine ∧ ∃ ys : List V, Ex H1 (upd H4 D (.lst (acc ++ [y]))) ∧ upd H4 D (.lst (acc ++ [y])) D = some (.lst ys) ∧ ys.length = i + 1 ∧ ∀ j z, ys[j]? = some z → Pm j z (upd H4 D (.lst (acc ++ [y])))) (fun y H3 e3 pm => ?_)
  · exact z
  · refine ⟨ys, e3 D _ hl, by rw [ln]; exact sz_lt (by omega), ys ++ [y], (e.trans e3).mut hD, upd_same, by simp [ln], fun j z hz => ?_⟩
    have nl : NL H3 (upd H3 D (.lst (ys ++ [y]))) := (NL.refl H3).put (e3 D _ hl)
    by_cases hj : j < ys.length
    · rw [List.getElem?_append_left hj] at hz
      exact mono j z _ _ ((NL.of e3).trans nl) (p j z hz)
    · have : j = ys.length := by
        have := (List.getElem?_eq_some_iff.mp hz).1
        simp at this; omega
      subst this
      simp at hz
      subst hz
      rw [ln] 
      exact mono _ _ _ _ nl pm
section
variable {P : Program} {w : World} {K : PySem.W.Frag} {mg : Str → Option Value} {base : Heap} {a : Ad}
theorem letters_ok (n : Nm) : ∀ c ∈ (nmS n).cps.toList, (!(Builtin.Str.occurrences ("abcdefghijklmnopqrstuvwxyz" : Str) ⟨#[c]⟩ 0 ("abcdefghijklmnopqrstuvwxyz" : Str).length 1).isEmpty) = true := by
  cases n <;> decide +kernel
theorem nm_len (n : Nm) : (1 : Int) ≤ ((nmS n).length : Nat) ∧ (((nmS n).length : Nat) : Int) ≤ 8 := by cases n <;> decide +kernel
def spIsWord : Sp := fun vs H Q _ => ∃ n : Nm, vs = [.str (nmS n)] ∧ ∀ H', Ex H H' → Q (.bl true) H'
theorem ok_is_word (T : Tx K mg a) : C8.Cal P w K mg base 1 "is_word" spIsWord [] := by
  refine cal_of T.dIsWord scIsWord (fun vs H Q E h => ?_) (fun f cdv A outer s H vs Q E hr h => ?_)
  · obtain ⟨n, rfl, _⟩ := h; rfl
  · obtain ⟨n, rfl, k⟩ := h
    refine ⟨_, pss_cons (ps_if (PW.pt (pw_or (pt_not (pt_val (pe_callB call_isi (by rfl) T.b_isinstance PyProof.Rows.boot_isinstance (pa_cons (pv 0) (pa_cons (pe_bltn (v := .ty "str") (by rfl) T.b_str PyProof.Rows.boot_str rfl) pa_nil)))))
        (pw_or1 (pt_not (pt_chain op_le op_le pe_int (pe_callB call_len_str (by rfl) T.b_len PySem.boot_len (pa_cons (pv 0) pa_nil)) (pg T.vMOST_LETTERS))))))
        (pss_one (ps_ret pe_bl)) pss_nil)
      (pss_one (ps_ret (pe_callB (cr_all rfl) (by rfl) T.b_all PyProof.Rows.boot_all (pa_cons
        (pe_lc (own := [("letter", 1)]) (g := gName 1) (tt := tYes) rfl scIsWord.nd (pi_str (pv 0)) (blkOk_by (N := ["thing", "letter"]) (sc := C8.fnScope sIsWord) (by decide +kernel)) (fun _ _ _ _ _ => pg_name (i := 1) scIsWord.nd rfl (Or.inl rfl)) (fun _ _ _ _ _ => pts_nil)
          (fun _ _ _ _ _ => pe_cmpR op_in_str (pv 1) (pg T.vLETTERS) (by rfl))) pa_nil)))), ?_⟩
    refine ⟨_, rfl, _, _, _, _, true, rfl, .ty "str", .base (.str _), kit_ty (by decide +kernel), true, rfl, iteF ?_⟩
    obtain ⟨h1, h2⟩ := nm_len n
    have hz : (nmS n).length ≤ sizeLine := sz_of (by omega)
    refine ⟨_, rfl, _, rfl, hz, 1, _, rfl, rfl, true, ?_, ?_⟩
    · exact congrArg V.bl (decide_eq_true h1)
    refine iteT ⟨_, 8, rfl, rfl, true, ?_, iteF ?_⟩
    · exact congrArg V.bl (decide_eq_true h2)
    refine ⟨_, rfl, _, rfl, fun D hD => ?_⟩
    refine lc_all walk_str (by have e : (nmS n).length = (nmS n).cps.size := rfl; omega) hD (fun _ v _ => v = .bl true) (fun _ _ _ _ _ h => h) (fun _ _ => trivial) ?_ ?_
    · rintro i x H1 _ hi e ⟨rfl, c, hc, rfl⟩ R hR
      refine ⟨rfl, _, rfl, _, _, rfl, rfl, hR _ _ (Ex.refl _) ?_⟩
      rw [letters_ok n c (by rw [Array.getElem?_eq_some_iff] at hc; obtain ⟨h, rfl⟩ := hc; exact Array.getElem_mem_toList h)]
    · intro ys H1 e hl ln hy
      have ey : ys = (List.replicate ys.length true).map V.bl := by
        apply List.ext_getElem
        · simp
        · intro j h3 h4
          have := hy j _ (List.getElem?_eq_getElem h3)
          simp [this]
      rw [ey] at hl
      refine ⟨D, _, rfl, SqL.of hl, ?_⟩
      have : (List.replicate ys.length true).all id = true := by simp
      rw [this]
      exact k H1 e

def spIsAction : Sp := fun vs H Q _ => ∃ c : Ka.Act, vs = [actV c] ∧ ActOk c ∧ ∀ H', Ex H H' → Q (.bl true) H'
theorem ok_is_action (T : Tx K mg a) : C8.Cal P w K mg base 2 "is_action" spIsAction [] := by
  refine cal_of T.dIsAction scIsAction (fun vs H Q E h => ?_) (fun f cdv A outer s H vs Q E hr h => ?_)
  · obtain ⟨n, rfl, _⟩ := h; rfl
  · obtain ⟨c, rfl, hc, k⟩ := h
    refine ⟨_, pss_one (ps_ret (pe_or (pe_and (pe_callB call_isi (by rfl) T.b_isinstance PyProof.Rows.boot_isinstance (pa_cons (pv 0) (pa_cons (pe_bltn (v := .ty "str") (by rfl) T.b_str PyProof.Rows.boot_str rfl) pa_nil)))
      (pe_one (pe_cmpR op_in_seq (pv 0) (pt T.vACTIONS) (by rfl)))) (pe_one (C8.pe_c (ok_is_number T) hr (by decide) (by rfl) (pa_cons (pv 0) (pa_cons pe_int (pa_cons (pg T.vMOST_JUMP) pa_nil))))))), ?_⟩
    have key : (∃ z, actV c = .str z ∧ inV (.str z) [.str "ok", .str "bad", .str "die", .str "done", .str "ignore", .str "reset"] = true) ∨ ∃ n : Nat, actV c = .int n ∧ 1 ≤ n ∧ n ≤ 9 := by
      cases c with
      | jump n => exact .inr ⟨n, rfl, hc.1, hc.2⟩
      | _ => exact .inl ⟨_, rfl, by decide +kernel⟩
    rcases key with ⟨z, e, hz⟩ | ⟨n, e, h1, h2⟩
    · rw [e]
      refine ⟨_, rfl, _, _, _, _, true, rfl, .ty "str", .base (.str _), kit_ty (by decide +kernel), _, rfl, iteT ?_⟩
      exact ⟨_, rfl, _, _, rfl, .inr (T.vACTIONS.t H), rfl, rfl, true, congrArg V.bl hz, iteT (k H (Ex.refl H))⟩
    · rw [e]
      refine ⟨_, rfl, _, _, _, _, false, rfl, .ty "str", .base (.int _), kit_ty (by decide +kernel), false, rfl, iteF ⟨false, rfl, iteF ?_⟩⟩
      refine ⟨_, rfl, n, 1, 9, rfl, ?_⟩
      rw [decide_eq_true (show (1 : Int) ≤ n by omega), decide_eq_true (show (n : Int) ≤ 9 by omega)]
      exact k H (Ex.refl H)
def spTableOf : Sp := fun vs H Q _ => ∃ (t : Addr) (c : Res → Ka.Act), vs = [.ref t] ∧ H t = some (.tup (acts c)) ∧ (∀ r, ActOk (c r)) ∧ ∀ H', Ex H H' → Q (.ref t) H'
theorem acts_at {c : Res → Ka.Act} {i : Nat} {v : V} (h : (acts c)[i]? = some v) : ∃ r, v = actV (c r) := by
  have hi : i < 4 := (List.getElem?_eq_some_iff.mp h).1
  match i, hi, h with
  | 0, _, h => exact ⟨.yes, (Option.some.inj h).symm⟩
  | 1, _, h => exact ⟨.no, (Option.some.inj h).symm⟩
  | 2, _, h => exact ⟨.skip, (Option.some.inj h).symm⟩
  | 3, _, h => exact ⟨.gone, (Option.some.inj h).symm⟩
theorem all_true {ys : List V} (h : ∀ (i : Nat) (y : V), ys[i]? = some y → y = .bl true) : ys = (List.replicate ys.length true).map V.bl := by
  apply List.ext_getElem
  · simp
  · intro j h3 h4
    have := h j _ (List.getElem?_eq_getElem h3)
    simp [this]
theorem ok_table_of (T : Tx K mg a) : C8.Cal P w K mg base 3 "table_of" spTableOf [] := by
  refine cal_of T.dTableOf scTableOf (fun vs H Q E h => ?_) (fun f cdv A outer s H vs Q E hr h => ?_)
  · obtain ⟨n, _, rfl, _⟩ := h; rfl
  · obtain ⟨t, c, rfl, ht, hc, k⟩ := h
    refine ⟨_, pss_cons (ps_if (pt_val (pe_callB call_isi (by rfl) T.b_isinstance PyProof.Rows.boot_isinstance (pa_cons (pv 0) (pa_cons (pe_bltn (v := .ty "str") (by rfl) T.b_str PyProof.Rows.boot_str rfl) pa_nil)))) pss_never pss_nil)
      (pss_cons (ps_if (PW.pt (pw_or (pt_not (pt_val (pe_callB call_isi (by rfl) T.b_isinstance PyProof.Rows.boot_isinstance (pa_cons (pv 0) (pa_cons (pe_bltn (v := .ty "tuple") (by rfl) T.b_tuple PyProof.Rows.boot_tuple rfl) pa_nil)))))
          (pw_or (pt_cmpR op_ne (pe_callB call_len_seq (by rfl) T.b_len PySem.boot_len (pa_cons (pv 0) pa_nil)) (pe_callB call_len_seq (by rfl) T.b_len PySem.boot_len (pa_cons (pt T.vRESULTS) pa_nil)) (nomark _))
          (pw_or1 (pt_not (pt_val (pe_callB (cr_all rfl) (by rfl) T.b_all PyProof.Rows.boot_all (pa_cons
            (pe_lc (own := [("one", 1)]) (g := gName 1) (tt := tYes) rfl scTableOf.nd (pi_tup (pv 0)) (blkOk_by (N := ["control", "one"]) (sc := C8.fnScope sTableOf) (by decide +kernel)) (fun _ _ _ _ _ => pg_name (i := 1) scTableOf.nd rfl (Or.inl rfl)) (fun _ _ _ _ _ => pts_nil)
              (fun _ _ _ _ _ => C8.pe_c (ok_is_action T) hr (by decide) (by rfl) (pa_cons (pv 1) pa_nil))) pa_nil))))))))
          pss_never pss_nil)
      (pss_one (ps_ret (pv 0)))), ?_⟩
    refine ⟨_, rfl, _, _, _, _, false, rfl, .ty "str", .base (.tup ht), kit_ty (by decide +kernel), false, rfl, iteF ?_⟩
    refine ⟨_, rfl, _, _, _, _, true, rfl, .ty "tuple", .base (.tup ht), kit_ty (by decide +kernel), true, rfl, iteF ?_⟩
    refine ⟨_, rfl, t, _, rfl, .inr (SqT.of ht), _, _, rfl, .inr (T.vRESULTS.t H), rfl, false, rfl, iteF ?_⟩
    refine ⟨_, rfl, t, rfl, ⟨_, SqT.of ht⟩, fun D hD => ?_⟩
    refine lc_all walk_tup (by show 4 ≤ 100000; decide) hD (fun _ v _ => v = .bl true) (fun _ _ _ _ _ h => h) (fun H1 e => ex_t e (SqT.of ht)) ?_ ?_
    · rintro i x H1 _ hi e ⟨rfl, hx⟩ R hR
      obtain ⟨r, rfl⟩ := acts_at hx
      exact ⟨rfl, _, rfl, _, rfl, hc r, fun H2 e2 => hR _ _ e2 rfl⟩
    · intro ys H1 e hl ln hy
      rw [all_true hy] at hl
      refine ⟨D, _, rfl, SqL.of hl, ?_⟩
      have z : (List.replicate ys.length true).all id = true := by simp
      rw [z]
      exact ⟨true, rfl, iteF ⟨_, rfl, k H1 e⟩⟩
/-! ### a rule -/
def rf (n : Nm) (t : Addr) : List (Str × V) := putF "acts" (.ref t) (putF "asks" (.str (nmS n)) [])
theorem ka : ¬ (("asks" : Str) = "acts") := by decide +kernel
theorem rf_asks (n : Nm) (t : Addr) : (rf n t).lookup ("asks" : Str) = some (.str (nmS n)) := by
  unfold rf; rw [lookup_putF, if_neg ka, lookup_putF, if_pos rfl]
theorem rf_acts (n : Nm) (t : Addr) : (rf n t).lookup ("acts" : Str) = some (.ref t) := by
  unfold rf; rw [lookup_putF, if_pos rfl]
theorem rf_no (n : Nm) (t : Addr) {m : Str} (h1 : ¬ m = "acts") (h2 : ¬ m = "asks") : (rf n t).lookup m = none := by
  unfold rf; rw [lookup_putF, if_neg h1, lookup_putF, if_neg h2]; all_goals rfl
/-- a rule's object -/
def RuleAt (C : Addr) (H : Hp) (p : Addr) (n : Nm) (c : Res → Ka.Act) : Prop := ∃ dx t, H p = some (.ins C dx (rf n t)) ∧ H t = some (.tup (acts c))
theorem RuleAt.mono {C : Addr} {H H' : Hp} {p : Addr} {n : Nm} {c : Res → Ka.Act} (e : NL H H') (h : RuleAt C H p n c) : RuleAt C H' p n c := by
  obtain ⟨dx, t, h1, h2⟩ := h
  exact ⟨dx, t, e _ _ h1 rfl, e _ _ h2 rfl⟩
def spRuleInit (C : Addr) : Sp := fun vs H Q _ => ∃ (x dx : Addr) (n : Nm) (t : Addr) (c : Res → Ka.Act), vs = [.ref x, .str (nmS n), .ref t] ∧ H x = some (.ins C dx []) ∧ H t = some (.tup (acts c)) ∧ (∀ r, ActOk (c r)) ∧
  ∀ H', (∀ b o, b ≠ x → H b = some o → H' b = some o) → H' x = some (.ins C dx (rf n t)) → Q .non H'
theorem ok_rule_init (T : Tx K mg a) : C8.Mak P w K mg base 4 "Rule" a.cRule (spRuleInit a.cRule) [] := by
  refine mak_of T.dRuleInit T.gRule scRuleInit (fun vs H Q E h => ?_) (fun f cdv A outer s H vs Q E hr h => ?_)
  · obtain ⟨_, _, _, _, _, rfl, _⟩ := h; rfl
  · obtain ⟨x, dx, n, t, c, rfl, hx, ht, hc, k⟩ := h
    refine ⟨_, pss_cons (ps_if (pt_not (pt_val (C8.pe_c (ok_is_word T) hr (by decide) (by rfl) (pa_cons (pv 1) pa_nil)))) pss_never pss_nil)
      (pss_cons (ps_if (pt_cmpR op_isN (C8.pe_c (ok_table_of T) hr (by decide) (by rfl) (pa_cons (pv 2) pa_nil)) pe_non (nomark _)) pss_never pss_nil)
      (pss_cons (ps_fld (pv 0) (pv 1) rfl)
      (pss_one (ps_fld (pv 0) (C8.pe_c (ok_table_of T) hr (by decide) (by rfl) (pa_cons (pv 2) pa_nil)) rfl)))), ?_⟩
    refine ⟨_, rfl, n, rfl, fun H1 e1 => ⟨true, rfl, iteF ?_⟩⟩
    refine ⟨_, rfl, t, c, rfl, e1 _ _ ht, hc, fun H2 e2 => ⟨rfl, false, rfl, iteF ?_⟩⟩
    have e := e1.trans e2
    have ntx : t ≠ x := ne_of ht hx (by intro z; cases z)
    refine ⟨_, rfl, _, rfl, x, a.cRule, dx, [], rfl, e _ _ hx, T.kRule, T.nRule_asks, (by decide), ?_⟩
    refine ⟨_, rfl, t, c, rfl, by rw [upd_ne ntx]; exact e _ _ ht, hc, fun H3 e3 => ?_⟩
    have hx3 := e3 x _ upd_same
    refine ⟨_, rfl, x, a.cRule, dx, _, rfl, hx3, T.kRule, T.nRule_acts, (by show 1 < 1000; decide), ?_⟩
    refine k _ (fun b o hb hbo => ?_) upd_same
    rw [upd_ne hb]
    refine e3 b o ?_
    rw [upd_ne hb]
    exact e b o hbo
def spActionFor (C : Addr) : Sp := fun vs H Q _ => ∃ (x : Addr) (n : Nm) (c : Res → Ka.Act) (r : Res), vs = [.ref x, .str (resS r)] ∧ RuleAt C H x n c ∧ Q (actV (c r)) H
theorem res_idx (r : Res) : ∃ j : Nat, (["yes", "no", "skip", "gone"] : List Str)[j]? = some (resS r) ∧ (∀ m, m < j → (["yes", "no", "skip", "gone"] : List Str)[m]? ≠ some (resS r)) ∧ ∀ c, (acts c)[j]? = some (actV (c r)) := by
  cases r
  · exact ⟨0, rfl, fun m h => absurd h (Nat.not_lt_zero m), fun c => rfl⟩
  · exact ⟨1, rfl, by decide +kernel, fun c => rfl⟩
  · exact ⟨2, rfl, by decide +kernel, fun c => rfl⟩
  · exact ⟨3, rfl, by decide +kernel, fun c => rfl⟩
theorem ok_action_for (T : Tx K mg a) : C8.Met P w K mg base 1 a.cRule "action_for" (spActionFor a.cRule) [] := by
  refine met_of T.kRule T.dActionFor scActionFor (fun vs H Q E h => ?_) (fun f cdv A outer s H vs Q E hr h => ?_)
  · obtain ⟨_, _, _, _, rfl, _⟩ := h; rfl
  · obtain ⟨x, n, c, r, rfl, ⟨dx, t, h1, h2⟩, k⟩ := h
    refine ⟨_, pss_one (ps_ret (pe_ix ix_tup (pe_fld (pv 0) rfl) (pe_bm PySem.F.plainAttrs_tuple PySem.F.slot_tuple_index PySem.F.type_tuple_index mt_tup_index (pt T.vRESULTS) (pa_cons (pv 1) pa_nil)) (fun _ _ => rfl))), ?_⟩
    obtain ⟨j, j1, j2, j3⟩ := res_idx r
    refine ⟨_, rfl, x, a.cRule, dx, _, _, rfl, h1, T.kRule, T.nRule_acts, rf_acts n t, ?_⟩
    exact ⟨T.vRESULTS.ty H, _, rfl, _, (["yes", "no", "skip", "gone"] : List Str), _, j, rfl, rfl, T.vRESULTS.t H, j1, j2, _, _, _, _, rfl, rfl, SqT.of h2, atI_nat (j3 c), k⟩
end
end Kb

set_option Elab.async false
set_option linter.all false
set_option maxRecDepth 100000
set_option maxHeartbeats 4000000
/-! New walks over the layer: enumerate of a tuple, zip of a tuple and a list: by the library's walks of pairs. -/
namespace Kb
open PySem PySem.Spec PyProof.Rows L2 Evl
/-- pairs x i, y i, for n turns, while G holds -/
def Itp (G : Hp → Prop) (n : Nat) (x y : Nat → V) : It :=
  ⟨fun i H => G H ∧ i < n, fun i H v H' => ∃ T, v = .ref T ∧ H T = none ∧ H' = upd H T (.tup [x i, y i]), fun i H => G H ∧ i = n⟩
theorem walk_p {G : Hp → Prop} {n : Nat} {x y : Nat → V} : Walk (Itp G n x y) n G (fun i H v H' => ∃ T, v = .ref T ∧ H T = none ∧ H' = upd H T (.tup [x i, y i])) :=
  ⟨fun _ _ hi g => ⟨g, hi⟩, fun _ g => ⟨g, rfl⟩, fun _ _ _ _ _ _ y => y⟩
/-- what a state of ours is worth: the library's walk of pairs stands, its cells are those at fp -/
structure Brd (P : Program) (w : World) (K : PySem.W.Frag) (G : Hp → Prop) (n : Nat) (x y : Nat → V) (it : Addr) (fp : List Addr) (tn : Nat → Heap → Prop) : Prop where
  go : ∀ (X : Cx), X.prog = P → X.w = w → X.K = K → X.calm = true → ∀ (i : Nat) (pins : List (Addr × Obj)) (s : Shared) (σ : L2.St) (H : Hp), Inv X pins σ H s → (∀ b ∈ fp, b < s.heap.objs.size) → tn i s.heap → G H →
    ∃ (fpW wr : List Addr) (Pt : Nat → Array Value → Prop) (St : Nat → Heap → Prop) (Mid : Nat → Addr → Heap → Prop), (∀ b ∈ wr, b ∈ fp) ∧ WalksT P w X.A it fpW wr n Pt St Mid ∧ St i s.heap ∧ (∀ h, St (i + 1) h → tn (i + 1) h) ∧
      ∀ vals, i < n → Pt i vals → Vals [x i, y i] vals.toList
theorem turn_p {P : Program} {w : World} {K : PySem.W.Frag} {G : Hp → Prop} {n : Nat} {x y : Nat → V} {it : Addr} {fp : List Addr} {tn : Nat → Heap → Prop} {elts : List Expr} {kk : Nat} {tpos : Pos} (B : Brd P w K G n x y it fp tn)
    (mem : it ∈ fp) (obj : ∀ i h, tn i h → ∀ b ∈ fp, ∃ o, h.get? b = some o ∧ ∀ v, o.data ≠ .cell v)
    (keep : ∀ i h h', tn i h → (∀ b ∈ fp, ∀ o, h.get? b = some o → h'.get? b = some o) → tn i h')
    (self : ∀ (A : Around) (i : Nat) (s : Shared) (Q : Value → Shared → Prop) (E : Value → Shared → Prop), tn i s.heap → Q (.ref it) s → wpAny (model P w) A (pyIter (.ref it)) Q E s) :
    Turn P w K (.Tuple elts kk tpos) (Itp G n x y) fp it tn where
  mem := mem
  obj := obj
  keep := keep
  self := self
  item := by
    intro X hP hw hK hc i pins s σ H E I hf st hg
    have lt : ∀ b ∈ fp, b < s.heap.objs.size := fun b hb => let ⟨_, e, _⟩ := obj i _ st b hb; Heap.lt_size e
    obtain ⟨fpW, wr, Pt, St, Mid, hsub, W, st0, hst, hv⟩ := B.go X hP hw hK hc i pins s σ H I lt st hg.1
    subst hP hw hK
    refine W.item i s _ _ hg.2 st0 fun T vals h' tk hp hT ht hm hk => ?_
    refine ⟨_, rfl, W.go elts kk tpos i T _ _ _ hm fun h'' hs hk2 => ?_⟩
    obtain ⟨ob, hob, hc1, nn, hd⟩ := ht
    have hTw : T ∉ wr := W.apart i T h' hm
    have hob2 : h''.get? T = some ob := hk2 T ob hTw hob
    have rv := hv vals hg.2 hp
    have new : ObjOk X.prog X.w (upd H T (.tup [x i, y i])) h'' T (.tup [x i, y i]) := ⟨by show 2 ≤ sizeLine; decide, vals.toList, rv, ⟨ob, hob2, hc1, nn, by simpa using hd⟩⟩
    have I1 : Inv X pins σ (upd H T (.tup [x i, y i])) { s with heap := h'', toks := tk } :=
      I.turnedNew (ch := fp) (fun b o hb q => hk2 b o (fun z => hb (hsub b z)) (hk b o (fun z => hb (hsub b z)) q)) hf hT new
    refine ⟨.ref T, _, I1, rfl, ⟨T, rfl, I.hok.fresh hT, rfl⟩, hst _ hs, fun b hb => ?_⟩
    rw [upd_ne (Nat.ne_of_lt (Nat.lt_of_lt_of_le (lt b hb) hT))]
    exact (hf b hb).1
  done := by
    intro X hP hw hK hc i pins s σ H E I hf st hg
    have lt : ∀ b ∈ fp, b < s.heap.objs.size := fun b hb => let ⟨_, e, _⟩ := obj i _ st b hb; Heap.lt_size e
    obtain ⟨fpW, wr, Pt, St, Mid, hsub, W, st0, hst, hv⟩ := B.go X hP hw hK hc i pins s σ H I lt st hg.1
    subst hP hw hK
    obtain ⟨_, rfl⟩ := hg
    exact W.done s _ _ st0 fun h' tk hk => ⟨rfl, I.turnedL (t' := tk) (ch := fp) (fun b o hb q => hk b o (fun z => hb (hsub b z)) q) hf⟩
/-! ### enumerate of a tuple -/
set_option maxHeartbeats 1000000 in
theorem meets_enum1 {v : Value} {o : Obj} {Hh : Heap → Prop} (B : Begins v o Hh) :
    Meets (Builtin.«enumerate.__new__» ⟨[.type "enumerate", v], []⟩) (fun _ R s => Hh s.heap ∧
      R (.ok (.ret (.ref (s.heap.push o).objs.size))) { s with heap := (s.heap.push o).push { cls := .type "enumerate", data := .fields #[.none, .bool false, .ref s.heap.objs.size, rawInt 0, .none, .none] } }) :=
  .of_wp fun prog w A R s h => by
    obtain ⟨hp, gs, dr, tk, os⟩ := s
    obtain ⟨h1, h⟩ := h
    have hsub := sub_enumerate
    have hit : ∀ {A' : Around} {E : Value → Shared → Prop} {Q : Value → Shared → Prop}, Q (.ref hp.objs.size) ⟨hp.push o, gs, dr, tk, os⟩ → wpAny (model prog w) A' (pyIter v) Q E ⟨hp, gs, dr, tk, os⟩ :=
      fun q => B.iter prog w _ _ ⟨hp, gs, dr, tk, os⟩ _ h1 q
    wp_walk using hit
    refine wpAny_stack_any fun st => wpAny_pure ?_
    split
    · rename_i c _ _ _ _ _
      cases (c == Value.type "enumerate") <;> (wp_walk using hit; exact ⟨_, rfl, h⟩)
    · wp_walk using hit
      exact ⟨_, rfl, h⟩
theorem call_enum1 {prog : Program} {w : World} {A : Around} {E : Value → Shared → Prop} {s : Shared} {v : Value} {o : Obj} {Hh : Heap → Prop} {Q : Value → Shared → Prop} (B : Begins v o Hh) (h1 : Hh s.heap)
    (h : ∀ h', IsEnum h' (s.heap.objs.size + 1) s.heap.objs.size 0 .none → h'.get? s.heap.objs.size = some o → (∀ b o, s.heap.get? b = some o → h'.get? b = some o) → Q (.ref (s.heap.objs.size + 1)) { s with heap := h' }) :
    wpAny (model prog w) A (call (.type "enumerate") [v]) Q E s := by
  refine callType_new F.called_enumerate (by decide) (F.typeCall_enumerate_1 _) (F.newCall_enumerate_1 _) (fun obj => F.args_object_init_2 obj _) F.entry_enumerate_new (meets_enum1 B) ⟨h1, ?_⟩
  have hz : (s.heap.push o).objs.size = s.heap.objs.size + 1 := Heap.size_push ..
  show _ ∧ _
  rw [hz]
  have he : IsEnum ((s.heap.push o).push { cls := .type "enumerate", data := .fields #[.none, .bool false, .ref s.heap.objs.size, rawInt 0, .none, .none] }) (s.heap.objs.size + 1) s.heap.objs.size 0 .none := by
    have z := Heap.get?_push_size (s.heap.push o) (o := { cls := .type "enumerate", data := .fields #[.none, .bool false, .ref s.heap.objs.size, rawInt 0, .none, .none] }) rfl
    rw [hz] at z
    exact z
  exact ⟨⟨_, he, rfl⟩, h _ he (Heap.get?_push_of_some _ (Heap.get?_push_size _ B.free)) fun b ob x => Heap.get?_push_of_some _ (Heap.get?_push_of_some _ x)⟩
theorem vals_get {xs : List V} {its : List Value} (rv : Vals xs its) {i : Nat} {x : V} {u : Value} (hx : xs[i]? = some x) (hu : its[i]? = some u) : RelV x u := by
  obtain ⟨u', h1, h2⟩ := rv.get hx
  rw [hu] at h1; cases h1; exact h2
theorem brd_enum {P : Program} {w : World} {K : PySem.W.Frag} {a e it : Addr} {xs : List V} (hne : e ≠ it) :
    Brd P w K (fun H => SqT K H a xs) xs.length (fun i => .int (i : Nat)) (fun i => xs.getD i .non) e [e, it] (fun i h => ((∃ old, IsEnum h e it ((i : Nat) : Int) old) ∧ h.IsTupleIter it a i) ∧ a ≠ e ∧ a ≠ it) where
  go := by
    intro X hP hw hK hc i pins s σ H I lt st hg
    subst hP hw hK
    obtain ⟨⟨he, hi⟩, n1, n2⟩ := st
    obtain ⟨its, rv, p, hz⟩ := I.tuple hg
    have hn : its.toArray.size = xs.length := by rw [List.size_toArray, rv.length]
    have D := Draws.tuple (prog := X.prog) (w := X.w) (A := X.A.in1) (I.ok.hd hc) it a n2 its.toArray
    rw [hn] at D
    refine ⟨_, _, _, _, _, fun b hb => hb, WalksT.enumFrom 0 D e hne (by simp [hne, Ne.symm n1]) (by simp), ⟨?_, hi, p⟩, fun h hs => ⟨⟨?_, hs.2.1⟩, n1, n2⟩, fun vals hlt hp => ?_⟩
    · rw [Int.zero_add]; exact he
    · have z := hs.1
      rw [Int.zero_add] at z
      exact z
    · obtain ⟨t, v, hv, rfl⟩ := hp
      rw [Int.zero_add]
      refine .cons ⟨t, rfl⟩ (.cons ?_ .nil)
      have hx : xs[i]? = some (xs.getD i .non) := by rw [List.getD_eq_getElem?_getD, List.getElem?_eq_getElem hlt]; rfl
      exact vals_get rv hx (by simpa using hv)
def iEnumT (K : PySem.W.Frag) (ta : TA) : TI := fun σ H R => ta σ H fun vs H1 => ∃ a xs, vs = [.ref a] ∧ SqT K H1 a xs ∧ R (Itp (fun H => SqT K H a xs) xs.length (fun i => .int (i : Nat)) (fun i => xs.getD i .non)) H1
theorem pi_enumT {X : Cx} {e : Expr} {ta : TA} {p pos tpos : Pos} {elts : List Expr} {kk : Nat} (hg : Gl X "enumerate") (hm : X.mg "enumerate" = none) (ha : PA X [e] ta) (hs : starEach [e] X.env = [(false, eval e X.env)] := by rfl) :
    PI X (.Tuple elts kk tpos) (.Call (.Name "enumerate" p) [e] [] pos) (iEnumT X.K ta) := by
  refine ⟨fun pins s σ H R I h => ?_⟩
  refine Call_ (ld_blt I hg hm boot_enumerate (PyProof.Rows.callWith_type1 (thn (ha.run pos pins s σ H _ I h) fun us s1 ⟨vs, H1, I1, r1, q1⟩ => ?_) hs rfl))
  obtain ⟨a, xs, ex, hq, q⟩ := q1
  subst ex
  cases r1 with
  | cons r rr =>
    cases rr
    cases r
    obtain ⟨its, rv, pt, hz⟩ := I1.tuple hq
    have hal : a < s1.heap.objs.size := by obtain ⟨o, ho, _⟩ := id pt; exact Heap.lt_size ho
    refine call_enum1 (begins_tuple a its.toArray) pt fun h' he hit hk => wpAny_pyIter_enum he ?_
    have I2 : Inv X pins σ H1 { s1 with heap := h' } := I1.kept (t' := s1.toks) hk
    have B : Brd X.prog X.w X.K (fun H => SqT X.K H a xs) xs.length (fun i => .int (i : Nat)) (fun i => xs.getD i .non) (s1.heap.objs.size + 1) [s1.heap.objs.size + 1, s1.heap.objs.size] _ := brd_enum (a := a) (Nat.succ_ne_self _)
    refine ⟨s1.heap.objs.size + 1, [s1.heap.objs.size + 1, s1.heap.objs.size], _, _, H1, rfl, I2, turn_p B (by simp) ?_ ?_ ?_, ⟨⟨⟨.none, he⟩, ⟨_, hit, rfl, rfl⟩⟩, Nat.ne_of_lt (Nat.lt_succ_of_lt hal), Nat.ne_of_lt hal⟩, fun b hb => ?_, q⟩
    · rintro i h ⟨⟨⟨old, he⟩, ⟨o, ho, hc, hd⟩⟩, _⟩ b hb
      rcases List.mem_cons.mp hb with z | z
      · rw [z]; exact ⟨_, he, fun v q => nomatch q⟩
      · rw [List.mem_singleton.mp z]; exact ⟨o, ho, fun v q => by rw [hd] at q; cases q⟩
    · rintro i h h2 ⟨⟨⟨old, he⟩, hi⟩, n1, n2⟩ k
      exact ⟨⟨⟨old, k _ (by simp) _ he⟩, hi.at fun o e => k _ (by simp) o e⟩, n1, n2⟩
    · rintro A i s Q E ⟨⟨⟨old, he⟩, hi⟩, _⟩ h
      exact wpAny_pyIter_enum he h
    · have hle : s1.heap.objs.size ≤ b := by
        rcases List.mem_cons.mp hb with z | z
        · rw [z]; exact Nat.le_succ _
        · rw [List.mem_singleton.mp z]; exact Nat.le_refl _
      exact I1.fpOk hle (I1.hok.fresh hle)
/-! ### zip of a tuple and a list -/
theorem getD_of {xs : List V} {i : Nat} (h : i < xs.length) : xs[i]? = some (xs.getD i .non) := by rw [List.getD_eq_getElem?_getD, List.getElem?_eq_getElem h]; rfl
theorem brd_zip {P : Program} {w : World} {K : PySem.W.Frag} {a b : Addr} {N : Nat} {xs ys : List V} (ha : a < N) (hb : b < N) :
    Brd P w K (fun H => SqT K H a xs ∧ SqL K H b ys) (min xs.length ys.length) (fun i => xs.getD i .non) (fun i => ys.getD i .non) (N + 4) [N + 4, N + 2, N + 3, N, N + 1]
      (fun i h => (IsZip h (N + 4) (N + 2) (N + 3) .none ∧ IsTupOf2 h (N + 2) (.ref N) (.ref (N + 1)) ∧ (∃ a1 a2, IsTupOf2 h (N + 3) a1 a2)) ∧ h.IsTupleIter N a i ∧ h.IsListIter (N + 1) b i) where
  go := by
    intro X hP hw hK hc i pins s σ H I lt st hg
    subst hP hw hK
    obtain ⟨hz, h1, h2⟩ := st
    obtain ⟨its, rv, p, _⟩ := I.tuple hg.1
    obtain ⟨its2, rv2, p2, _⟩ := I.list hg.2
    have D1 := Draws.tuple (prog := X.prog) (w := X.w) (A := X.A.in1) (I.ok.hd hc) N a (Nat.ne_of_lt ha) its.toArray
    have D2 := Draws.list (prog := X.prog) (w := X.w) (A := X.A.in1) (I.ok.hd hc) (N + 1) b (Nat.ne_of_lt (Nat.lt_succ_of_lt hb)) its2.toArray
    rw [show its.toArray.size = xs.length by rw [List.size_toArray, rv.length]] at D1
    rw [show its2.toArray.size = ys.length by rw [List.size_toArray, rv2.length]] at D2
    have S := zip_sep2 (N := N) (fp1 := [a]) (fp2 := [b]) (fun c hc => by rw [List.mem_singleton.mp hc]; exact ha) (fun c hc => by rw [List.mem_singleton.mp hc]; exact hb)
    refine ⟨_, _, _, _, _, fun c hc => ?_, WalksT.zipD2 S D1 D2, ⟨hz.1, hz.2.1, hz.2.2, ⟨h1, p⟩, h2, p2.isList⟩, fun h hs => ⟨⟨hs.1, hs.2.1, hs.2.2.1⟩, hs.2.2.2.1.1, hs.2.2.2.2.1⟩, fun vals hlt hp => ?_⟩
    · simp only [List.mem_cons, List.not_mem_nil, or_false] at hc ⊢
      rcases hc with z | z | z | z
      · exact .inl z
      · exact .inr (.inr (.inl z))
      · exact .inr (.inr (.inr (.inl z)))
      · exact .inr (.inr (.inr (.inr z)))
    · obtain ⟨v1, v2, e1, e2, rfl⟩ := hp
      exact .cons (vals_get rv (getD_of (by omega)) (by simpa using e1)) (.cons (vals_get rv2 (getD_of (by omega)) (by simpa using e2)) .nil)
def iZipTL (K : PySem.W.Frag) (ta : TA) : TI := fun σ H R => ta σ H fun vs H1 => ∃ a b xs ys, vs = [.ref a, .ref b] ∧ SqT K H1 a xs ∧ SqL K H1 b ys ∧ R (Itp (fun H => SqT K H a xs ∧ SqL K H b ys) (min xs.length ys.length) (fun i => xs.getD i .non) (fun i => ys.getD i .non)) H1
theorem pi_zipTL {X : Cx} {e e2 : Expr} {ta : TA} {p pos tpos : Pos} {elts : List Expr} {kk : Nat} (hg : Gl X "zip") (hm : X.mg "zip" = none) (ha : PA X [e, e2] ta)
    (hs : starEach [e, e2] X.env = (false, eval e X.env) :: starEach [e2] X.env := by rfl) (hpl : (backTo pos (starEach [e2] X.env)).any (·.1) = false := by rfl) :
    PI X (.Tuple elts kk tpos) (.Call (.Name "zip" p) [e, e2] [] pos) (iZipTL X.K ta) := by
  refine ⟨fun pins s σ H R I h => ?_⟩
  refine Call_ (ld_blt I hg hm PyProof.Rows.boot_zip (PyProof.Rows.callWith_type1 (thn (ha.run pos pins s σ H _ I h) fun us s1 ⟨vs, H1, I1, r1, q1⟩ => ?_) hs hpl))
  obtain ⟨a, b, xs, ys, ex, hqx, hqy, q⟩ := q1
  subst ex
  cases r1 with
  | cons r rr =>
    cases rr with
    | cons r' rr =>
      cases rr
      cases r
      cases r'
      obtain ⟨its, rv, p1, _⟩ := I1.tuple hqx
      obtain ⟨its2, rv2, p2, _⟩ := I1.list hqy
      have la : a < s1.heap.objs.size := by obtain ⟨o, ho, _⟩ := id p1; exact Heap.lt_size ho
      have lb : b < s1.heap.objs.size := p2.lt
      refine zip_begins2 (begins_tuple a its.toArray) (begins_list b its2.toArray) p1 p2.isList fun h' hz hTI hTO h1 h2 hsz hk => wpAny_pyIter_zip hz ?_
      have I2 : Inv X pins σ H1 { s1 with heap := h' } := I1.kept (t' := s1.toks) hk
      refine ⟨s1.heap.objs.size + 4, [s1.heap.objs.size + 4, s1.heap.objs.size + 2, s1.heap.objs.size + 3, s1.heap.objs.size, s1.heap.objs.size + 1], _, _, H1, rfl, I2, turn_p (brd_zip la lb) (by simp) ?_ ?_ ?_, ⟨⟨hz, hTI, _, _, hTO⟩, ⟨_, h1, rfl, rfl⟩, ⟨_, h2, rfl, rfl⟩⟩, fun c hcm => ?_, q⟩
      · rintro i h ⟨⟨z1, z2, a1, a2, z3⟩, ⟨o, ho, hc, hd⟩, ⟨o', ho', hc', hd'⟩⟩ c hcm
        simp only [List.mem_cons, List.not_mem_nil, or_false] at hcm
        rcases hcm with z | z | z | z | z
        · rw [z]; exact ⟨_, z1, fun v q => nomatch q⟩
        · rw [z]; exact ⟨_, z2, fun v q => nomatch q⟩
        · rw [z]; exact ⟨_, z3, fun v q => nomatch q⟩
        · rw [z]; exact ⟨o, ho, fun v q => by rw [hd] at q; cases q⟩
        · rw [z]; exact ⟨o', ho', fun v q => by rw [hd'] at q; cases q⟩
      · rintro i h h2 ⟨⟨z1, z2, a1, a2, z3⟩, h5, h6⟩ k
        exact ⟨⟨k _ (by simp) _ z1, k _ (by simp) _ z2, a1, a2, k _ (by simp) _ z3⟩, h5.at fun o e => k _ (by simp) o e, h6.at fun o e => k _ (by simp) o e⟩
      · rintro A i s Q E ⟨⟨z1, _⟩, _⟩ h
        exact wpAny_pyIter_zip z1 h
      · have hle : s1.heap.objs.size ≤ c := by
          simp only [List.mem_cons, List.not_mem_nil, or_false] at hcm
          rcases hcm with z | z | z | z | z
          · rw [z]; exact Nat.le_add_right _ _
          · rw [z]; exact Nat.le_add_right _ _
          · rw [z]; exact Nat.le_add_right _ _
          · rw [z]; exact Nat.le_refl _
          · rw [z]; exact Nat.le_add_right _ _
        exact I1.fpOk hle (I1.hok.fresh hle)
end Kb

set_option Elab.async false
set_option linter.all false
set_option maxRecDepth 100000
set_option maxHeartbeats 8000000
/-! set(x), x a list or a tuple, by a rule for one item. -/
namespace Kb
open PySem PySem.Spec PyProof.Rows L2
/-- the set as it is made -/
abbrev set0 (w : World) : Obj := { cls := .type "set", dict := none, data := .set #[] 0 (.fresh 0 0 (!w.params.followText "set-order")) }
section
variable {P : Program} {w : World} {A : Around} {E : Value → Shared → Prop} {s : Shared}
/-- one more item: Rel i becomes Rel (i + 1), all but the set stays -/
def AddR (P : Program) (w : World) (A : Around) (S : Addr) (n : Nat) (Pv : Nat → Value → Prop) (Rel : Nat → Heap → Prop) : Prop :=
  ∀ (i : Nat) (v : Value) (s : Shared) (Q : Bool → Shared → Prop) (E : Value → Shared → Prop), i < n → Pv i v → Rel i s.heap →
    (∀ b h' tk, s.toks ≤ tk → Heap.SameBut S s.heap h' → Rel (i + 1) h' → Q b { s with heap := h', toks := tk }) → wpAny (model P w) A (setAdd S v) Q E s
theorem set_fill {I : Addr} {fp wr : List Addr} {G : Array GenState → Array GenState → Prop} {n : Nat} {Pv : Nat → Value → Prop} {St : Nat → Shared → Prop} {R : Result → Shared → Prop}
    (W : WalksS P w A.in1 I fp wr G n Pv St) (S : Addr) (hSf : S ∉ fp) (Rel : Nat → Heap → Prop) (relk : ∀ i h h', Rel i h → (∀ b o, b ∉ wr → h.get? b = some o → h'.get? b = some o) → Rel i h') (add : AddR P w A.in1 S n Pv Rel) :
    ∀ (k i : Nat) (s : Shared), n - i = k → i ≤ n → St i s → Rel i s.heap →
      (∀ s', Moved (S :: wr) G s s' → Rel n s'.heap → R (.ok (.ret .none)) s') →
      codeAny (model P w) A (.builtin "set.update.loop" ⟨[.ref S, .ref I], []⟩) R s := by
  have sub2 : ∀ b ∈ wr, b ∈ S :: wr := fun b hb => List.mem_cons_of_mem _ hb
  intro k
  induction k with
  | zero =>
    intro i s hk hi st hrel hR
    obtain rfl : i = n := by omega
    refine codeAny_builtin F.entry_set_update_loop ?_
    rw [Around.under_plainId F.plain_set_update_loop _]
    show wpAny _ A.in1 (pyNext (.ref I) >>= _) _ _ s
    refine wpAny_bind (W.done s _ _ st fun s' mv => ?_)
    show wpAny _ A.in1 (ret Value.none) _ _ s'
    exact wpAny_pure (hR s' (mv.mono sub2) (relk _ _ _ hrel mv.heap))
  | succ k ih =>
    intro i s hk hi st hrel hR
    have hlt : i < n := by omega
    refine codeAny_builtin F.entry_set_update_loop ?_
    rw [Around.under_plainId F.plain_set_update_loop _]
    show wpAny _ A.in1 (pyNext (.ref I) >>= _) _ _ s
    refine wpAny_bind (W.item i s _ _ hlt st fun v s' hv st' mv => ?_)
    show wpAny _ A.in1 (holding [v] (setAdd S v) >>= _) _ _ s'
    refine wpAny_bind (wpAny_holding (add i v s' _ _ hlt hv (relk _ _ _ hrel mv.heap) fun b h' tk htk sb hrel' => ?_))
    have keepF : ∀ b ∈ fp, ∀ o, s'.heap.get? b = some o → h'.get? b = some o := fun b hb o e => by
      rw [sb.2 b fun z => hSf (z ▸ hb)]; exact e
    refine wpAny_pure ⟨plainId_quiet F.plain_set_update_loop _, ih (i + 1) _ (by omega) hlt (W.frame _ s' _ _ st' htk keepF) hrel' fun s'' mv2 hrel2 => ?_⟩
    refine hR s'' (Moved.trans W.gtrans ((mv.mono sub2).then_heap htk fun b o hb e => ?_) mv2) hrel2
    rw [sb.2 b fun z => hb (by rw [z]; exact List.mem_cons_self)]; exact e
set_option maxHeartbeats 3200000 in
theorem call_set_list {l : Addr} {items : Array Value} {Q : Value → Shared → Prop} (hh : A.handled = none) (hl : s.heap.IsList l items) (Rel : Nat → Heap → Prop)
    (relk : ∀ i h h', Rel i h → (∀ b o, b ≠ s.heap.objs.size + 1 → h.get? b = some o → h'.get? b = some o) → Rel i h')
    (rel0 : ∀ h', h'.get? s.heap.objs.size = some (set0 w) → (∀ b o, s.heap.get? b = some o → h'.get? b = some o) → Rel 0 h')
    (add : ∀ A' : Around, A'.units ≤ A.units + 3 → AddR P w A' s.heap.objs.size items.size (fun i v => items[i]? = some v) Rel)
    (h : ∀ (h' : Heap) (tk : Nat), Rel items.size h' → (∀ b o, s.heap.get? b = some o → h'.get? b = some o) → Q (.ref s.heap.objs.size) { s with heap := h', toks := tk }) :
    wpAny (model P w) A (call (.type "set") [.ref l]) Q E s := by
  obtain ⟨c, tl, hmro⟩ := F.called_set.mro
  have hmade := F.called_set.made
  have hsub := F.called_set.sub
  refine wpAny_call (codeAny_of_tree ?_)
  show wpAny _ _ (callAny (.type "set") _) _ _ _
  refine wpAny_pure ⟨Code.quiet_builtin _ (by decide +kernel), codeAny_builtin F.entry_type_call ?_⟩
  rw [Around.under_plain (weight_type_call_type "set" [.ref l] []) rfl]
  have h1 := F.called_set.notType
  have h2 := F.called_set.canCreate
  have hct := F.typeCall_set_1 (.ref l)
  repeat (any_goals (first | assumption | wp_step))
  refine codeAny_mono (code_set_led1 (.ref l) (E := E) (Q₁ := fun obj s₁ => obj = .ref s.heap.objs.size ∧ s₁ = { s with heap := s.heap.push (set0 w) }) ⟨rfl, rfl⟩) fun r s₁ hr => ?_
  cases r with
  | error e => exact hr
  | ok fl =>
    cases fl with
    | ret obj =>
      obtain ⟨rfl, rfl⟩ := hr
      have hS : (s.heap.push (set0 w)).get? s.heap.objs.size = some (set0 w) := Heap.get?_push_size _ rfl
      have hT : Shared.TypeIs { s with heap := s.heap.push (set0 w) } (.ref s.heap.objs.size) "set" := ⟨_, hS, rfl⟩
      have hli := F.called_set.init.lookup
      have hbi := F.called_set.init.bind (.ref s.heap.objs.size)
      repeat (any_goals (first | assumption | wp_step))
      refine codeAny_mono (codeAny_call_builtin (R := wants (fun r s₂ => r = .none ∧ ∃ h' tk, s₂ = { s with heap := h', toks := tk } ∧ Rel items.size h' ∧ (∀ b o, s.heap.get? b = some o → h'.get? b = some o)) E)
        F.called_set.init.plain F.entry_set_init (check_set_init_1 hT ?_)) fun r₂ s₂ hr₂ => ?_
      · obtain ⟨ol, hol, hcl, nl, hdl⟩ := hl
        obtain ⟨ocls, odict, odata, oslots⟩ := ol
        simp only at hcl hdl
        subst hcl hdl
        have hol' : (s.heap.push (set0 w)).get? l = some { cls := .type "list", dict := odict, data := .seq items nl, slots := oslots } := Heap.get?_push_of_some _ hol
        have hsls := F.sub_list_set
        have hslf := F.sub_list_frozenset
        have hne : (Value.type "list" == Value.type "dict") = false := by decide
        have hl1 : (s.heap.push (set0 w)).IsList l items := ⟨_, hol', rfl, nl, rfl⟩
        unfold Builtin.«set.__init__» noKeywords Builtin.Frozenset.updateFrom
        generalize hPI : pyIter = PI
        wp_walk
        subst hPI
        refine wpAny_pyIter_list hl1 ?_
        refine wpAny_bind (wpAny_runValue ?_)
        have hlS : l < s.heap.objs.size := Heap.lt_size hol
        have hz1 : (s.heap.push (set0 w)).objs.size = s.heap.objs.size + 1 := Heap.size_push ..
        have hneI : l ≠ (s.heap.push (set0 w)).objs.size := by rw [hz1]; exact Nat.ne_of_lt (Nat.lt_succ_of_lt hlS)
        have hSf : s.heap.objs.size ∉ [(s.heap.push (set0 w)).objs.size, l] := by
          rw [hz1]
          simp only [List.mem_cons, List.not_mem_nil, or_false, not_or]
          exact ⟨Nat.ne_of_lt (Nat.lt_succ_self _), Nat.ne_of_gt hlS⟩
        refine set_fill ((Walks.list (by simp [hh]) _ l hneI items).toS) s.heap.objs.size hSf Rel (fun i h h' hr hk => relk i h h' hr fun b o hb e => hk b o (by rw [hz1]; simpa using hb) e) (add _ (by show A.units + 1 + 1 + 1 ≤ _; omega))
          (items.size - 0) 0 _ (by omega) (Nat.zero_le _) ⟨⟨_, Heap.get?_push_size _ rfl, rfl, rfl⟩, (hl1.push _)⟩ (rel0 _ (Heap.get?_push_of_some _ hS) fun b o e => Heap.get?_push_of_some _ (Heap.get?_push_of_some _ e)) fun s' mv hrel => ?_
        obtain ⟨h', g2, d', tk', os'⟩ := s'
        obtain rfl : g2 = s.gens := mv.gens
        obtain rfl : d' = s.drawn := mv.drawn
        obtain rfl : os' = s.os := mv.os
        show wpAny _ _ _ _ _ _
        refine wpAny_pure ?_
        show wpAny _ _ (ret Value.none) _ _ _
        refine wpAny_pure ⟨rfl, h', tk', rfl, hrel, fun b o e => ?_⟩
        have hb0 : b < s.heap.objs.size := Heap.lt_size e
        refine mv.heap b o ?_ (Heap.get?_push_of_some _ (Heap.get?_push_of_some _ e))
        rw [hz1]
        simp only [List.mem_cons, List.not_mem_nil, or_false, not_or]
        exact ⟨Nat.ne_of_lt hb0, Nat.ne_of_lt (Nat.lt_succ_of_lt hb0)⟩
      · cases r₂ with
        | error e => exact hr₂
        | ok fl₂ =>
          cases fl₂ with
          | ret r =>
            obtain ⟨rfl, h', tk, rfl, hrel, hk⟩ := hr₂
            repeat (any_goals (first | assumption | wp_step))
            exact h _ _ hrel hk
          | _ => exact hr₂.elim
    | _ => exact hr.elim
set_option maxHeartbeats 3200000 in
theorem call_set_tuple {l : Addr} {items : Array Value} {Q : Value → Shared → Prop} (hh : A.handled = none) (hl : s.heap.IsTuple l items) (Rel : Nat → Heap → Prop)
    (relk : ∀ i h h', Rel i h → (∀ b o, b ≠ s.heap.objs.size + 1 → h.get? b = some o → h'.get? b = some o) → Rel i h')
    (rel0 : ∀ h', h'.get? s.heap.objs.size = some (set0 w) → (∀ b o, s.heap.get? b = some o → h'.get? b = some o) → Rel 0 h')
    (add : ∀ A' : Around, A'.units ≤ A.units + 3 → AddR P w A' s.heap.objs.size items.size (fun i v => items[i]? = some v) Rel)
    (h : ∀ (h' : Heap) (tk : Nat), Rel items.size h' → (∀ b o, s.heap.get? b = some o → h'.get? b = some o) → Q (.ref s.heap.objs.size) { s with heap := h', toks := tk }) :
    wpAny (model P w) A (call (.type "set") [.ref l]) Q E s := by
  obtain ⟨c, tl, hmro⟩ := F.called_set.mro
  have hmade := F.called_set.made
  have hsub := F.called_set.sub
  refine wpAny_call (codeAny_of_tree ?_)
  show wpAny _ _ (callAny (.type "set") _) _ _ _
  refine wpAny_pure ⟨Code.quiet_builtin _ (by decide +kernel), codeAny_builtin F.entry_type_call ?_⟩
  rw [Around.under_plain (weight_type_call_type "set" [.ref l] []) rfl]
  have h1 := F.called_set.notType
  have h2 := F.called_set.canCreate
  have hct := F.typeCall_set_1 (.ref l)
  repeat (any_goals (first | assumption | wp_step))
  refine codeAny_mono (code_set_led1 (.ref l) (E := E) (Q₁ := fun obj s₁ => obj = .ref s.heap.objs.size ∧ s₁ = { s with heap := s.heap.push (set0 w) }) ⟨rfl, rfl⟩) fun r s₁ hr => ?_
  cases r with
  | error e => exact hr
  | ok fl =>
    cases fl with
    | ret obj =>
      obtain ⟨rfl, rfl⟩ := hr
      have hS : (s.heap.push (set0 w)).get? s.heap.objs.size = some (set0 w) := Heap.get?_push_size _ rfl
      have hT : Shared.TypeIs { s with heap := s.heap.push (set0 w) } (.ref s.heap.objs.size) "set" := ⟨_, hS, rfl⟩
      have hli := F.called_set.init.lookup
      have hbi := F.called_set.init.bind (.ref s.heap.objs.size)
      repeat (any_goals (first | assumption | wp_step))
      refine codeAny_mono (codeAny_call_builtin (R := wants (fun r s₂ => r = .none ∧ ∃ h' tk, s₂ = { s with heap := h', toks := tk } ∧ Rel items.size h' ∧ (∀ b o, s.heap.get? b = some o → h'.get? b = some o)) E)
        F.called_set.init.plain F.entry_set_init (check_set_init_1 hT ?_)) fun r₂ s₂ hr₂ => ?_
      · obtain ⟨ol, hol, hcl, nl, hdl⟩ := hl
        obtain ⟨ocls, odict, odata, oslots⟩ := ol
        simp only at hcl hdl
        subst hcl hdl
        have hol' : (s.heap.push (set0 w)).get? l = some { cls := .type "tuple", dict := odict, data := .seq items nl, slots := oslots } := Heap.get?_push_of_some _ hol
        have hsls := F.sub_tuple_set
        have hslf := F.sub_tuple_frozenset
        have hne : (Value.type "tuple" == Value.type "dict") = false := by decide
        have hl1 : (s.heap.push (set0 w)).IsTuple l items := ⟨_, hol', rfl, nl, rfl⟩
        unfold Builtin.«set.__init__» noKeywords Builtin.Frozenset.updateFrom
        generalize hPI : pyIter = PI
        wp_walk
        subst hPI
        refine wpAny_pyIter_tuple hl1 ?_
        refine wpAny_bind (wpAny_runValue ?_)
        have hlS : l < s.heap.objs.size := Heap.lt_size hol
        have hz1 : (s.heap.push (set0 w)).objs.size = s.heap.objs.size + 1 := Heap.size_push ..
        have hneI : l ≠ (s.heap.push (set0 w)).objs.size := by rw [hz1]; exact Nat.ne_of_lt (Nat.lt_succ_of_lt hlS)
        have hSf : s.heap.objs.size ∉ [(s.heap.push (set0 w)).objs.size, l] := by
          rw [hz1]
          simp only [List.mem_cons, List.not_mem_nil, or_false, not_or]
          exact ⟨Nat.ne_of_lt (Nat.lt_succ_self _), Nat.ne_of_gt hlS⟩
        refine set_fill ((Walks.tuple (by simp [hh]) _ l hneI items).toS) s.heap.objs.size hSf Rel (fun i h h' hr hk => relk i h h' hr fun b o hb e => hk b o (by rw [hz1]; simpa using hb) e) (add _ (by show A.units + 1 + 1 + 1 ≤ _; omega))
          (items.size - 0) 0 _ (by omega) (Nat.zero_le _) ⟨⟨_, Heap.get?_push_size _ rfl, rfl, rfl⟩, (hl1.push _)⟩ (rel0 _ (Heap.get?_push_of_some _ hS) fun b o e => Heap.get?_push_of_some _ (Heap.get?_push_of_some _ e)) fun s' mv hrel => ?_
        obtain ⟨h', g2, d', tk', os'⟩ := s'
        obtain rfl : g2 = s.gens := mv.gens
        obtain rfl : d' = s.drawn := mv.drawn
        obtain rfl : os' = s.os := mv.os
        show wpAny _ _ _ _ _ _
        refine wpAny_pure ?_
        show wpAny _ _ (ret Value.none) _ _ _
        refine wpAny_pure ⟨rfl, h', tk', rfl, hrel, fun b o e => ?_⟩
        have hb0 : b < s.heap.objs.size := Heap.lt_size e
        refine mv.heap b o ?_ (Heap.get?_push_of_some _ (Heap.get?_push_of_some _ e))
        rw [hz1]
        simp only [List.mem_cons, List.not_mem_nil, or_false, not_or]
        exact ⟨Nat.ne_of_lt hb0, Nat.ne_of_lt (Nat.lt_succ_of_lt hb0)⟩
      · cases r₂ with
        | error e => exact hr₂
        | ok fl₂ =>
          cases fl₂ with
          | ret r =>
            obtain ⟨rfl, h', tk, rfl, hrel, hk⟩ := hr₂
            repeat (any_goals (first | assumption | wp_step))
            exact h _ _ hrel hk
          | _ => exact hr₂.elim
    | _ => exact hr.elim
end
end Kb

set_option Elab.async false
set_option linter.all false
set_option maxRecDepth 100000
set_option maxHeartbeats 8000000
/-! set and sorted(set) of texts. -/
namespace Kb
open PySem PySem.Spec PyProof.Rows L2
open PySem.Froz (SD sObj TxOk addTx tailTx)
open PySem.W (EachIs)
/-- the set at S holds the texts l -/
def SetS (P : Program) (w : World) (S : Addr) (l : List Str) (h : Heap) : Prop := ∃ D : SD, h.get? S = some (sObj "set" D) ∧ TxOk P w D l ∧ Ris D.2.2.place.toList ∧ (w.params.followText "set-order" = true ∨ D.2.2.led = true)
section
variable {P : Program} {w : World} {A : Around} {E : Value → Shared → Prop} {s : Shared}
theorem SetS.at {S : Addr} {l : List Str} {h h' : Heap} (x : SetS P w S l h) (k : ∀ o, h.get? S = some o → h'.get? S = some o) : SetS P w S l h' := by
  obtain ⟨D, h1, h2⟩ := x
  exact ⟨D, k _ h1, h2⟩
theorem tail_risled {ep : Nat} {es1 : Array (Int × Value)} {t2 : SetTable} {b : Bool} (r : Ris t2.place.toList) : Ris (tailTx ep es1 t2 b).2.2.place.toList ∧ (tailTx ep es1 t2 b).2.2.led = t2.led := by
  unfold tailTx
  split
  · exact ⟨relayAll_ris _ _ _, relayAll_led _ _ _⟩
  · exact ⟨r, rfl⟩
theorem add_risled {h : Int} {v : Value} {D : SD} (r : Ris D.2.2.place.toList) : Ris (addTx h v D).2.2.place.toList ∧ (addTx h v D).2.2.led = D.2.2.led := by
  have r1 := layNew_ris D.2.2 D.1 h v r
  have l1 := layNew_led D.2.2 D.1 h v
  unfold addTx
  split
  · obtain ⟨a, b⟩ := tail_risled (ep := D.2.1) (es1 := (layNew D.2.2 D.1 h v).1) (t2 := { (layNew D.2.2 D.1 h v).2.1 with plain := false }) (b := (layNew D.2.2 D.1 h v).2.2.1) r1
    exact ⟨a, b.trans l1⟩
  · obtain ⟨a, b⟩ := tail_risled (ep := D.2.1) (es1 := (layNew D.2.2 D.1 h v).1) (t2 := (layNew D.2.2 D.1 h v).2.1) (b := (layNew D.2.2 D.1 h v).2.2.1) r1
    exact ⟨a, b.trans l1⟩
theorem SetS.add {S : Addr} {l : List Str} {k : Str} {tk : Tok} {Q : Bool → Shared → Prop} (x : SetS P w S l s.heap) (hb : l.length + 1 < scanBound)
    (h : ∀ b h' l', Heap.SameBut S s.heap h' → SetS P w S l' h' → (l' = l ∧ k ∈ l) ∨ (l' = k :: l ∧ k ∉ l) → Q b { s with heap := h', toks := s.toks + 1 }) :
    wpAny (model P w) A (setAdd S (.str k tk)) Q E s := by
  obtain ⟨D, ho, F, r, led⟩ := x
  unfold setAdd
  refine wpAny_holding (wpAny_bind ((strKind P w).pyHash (PySem.Froz.is_str k tk) ?_))
  by_cases hk : k ∈ l
  · obtain ⟨es, ep, t⟩ := id D
    obtain ⟨e, he, pe⟩ := (F.mem k).mp hk
    have hb0 : D.1.size < scanBound := by rw [F.sz]; omega
    unfold setAddHashed setAddHashedIn
    refine wpAny_holding (wpAny_bind (wpAny_setState_of (s := { s with toks := s.toks + 1 }) ho rfl F.fit ?_))
    dsimp only
    rw [byScan_of rfl hb0 F.el]
    simp only [↓reduceIte]
    unfold setAddByScan
    refine wpAny_bind (wpAny_bind (wpAny_rule (wpAny_bind (wpAny_setScan_of (knd := strKind P w) (k := k) (PySem.Froz.is_str k tk) ho rfl F.fit F.el ?_))))
    cases hf : List.findIdx? (fun e => (strKind P w).is k e.2) D.1.toList with
    | none =>
      have c := List.findIdx?_eq_none_iff.mp hf e he
      rw [pe] at c; cases c
    | some j => exact wpAny_pure (wpAny_pure (h false s.heap l (Heap.SameBut.refl S s.heap) ⟨D, ho, F, r, led⟩ (.inl ⟨rfl, hk⟩)))
  · obtain ⟨r1, l1⟩ := add_risled (h := hashStr w k) (v := .str k tk) r
    refine PySem.Froz.add_x (s := { s with toks := s.toks + 1 }) ho F hk hb ?_
    exact h true _ (k :: l) (Heap.SameBut.update s.heap S _) ⟨_, PySem.Froz.get_upd _ ho rfl, PySem.Froz.add_ok tk F, r1, by rw [l1]; exact led⟩ (.inr ⟨rfl, hk⟩)
theorem SetS.fresh {h : Heap} {S : Addr} (e : h.get? S = some (set0 w)) : SetS P w S [] h :=
  ⟨(#[], 0, .fresh 0 0 (!w.params.followText "set-order")), e, PySem.Froz.TxOk.nil (by rfl), List.Pairwise.nil, by
    show _ ∨ (!w.params.followText "set-order") = true
    cases w.params.followText "set-order"
    · exact .inr rfl
    · exact .inl rfl⟩
/-- what the set holds of the first i -/
def RelS (P : Program) (w : World) (S : Addr) (xs : List Str) (i : Nat) (h : Heap) : Prop := ∃ l : List Str, l.Nodup ∧ (∀ k, k ∈ l ↔ k ∈ xs.take i) ∧ SetS P w S l h
theorem take_some {α : Type} {xs : List α} {i : Nat} {x : α} (h : xs[i]? = some x) : xs.take (i + 1) = xs.take i ++ [x] := by rw [List.take_succ, h]; rfl
theorem nodup_len {α : Type} [BEq α] [LawfulBEq α] {l m : List α} (h : l.Nodup) (s : ∀ x ∈ l, x ∈ m) : l.length ≤ m.length := List.Nodup.length_le_of_subset h s
theorem addS {S : Addr} {xs : List Str} (hn : xs.length + 2 < scanBound) (A : Around) : AddR P w A S xs.length (fun i v => ∃ k tk, xs[i]? = some k ∧ v = .str k tk) (RelS P w S xs) := by
  rintro i v s Q E hi ⟨k, tk, hk, rfl⟩ ⟨l, nd, mem, x⟩ h
  have hl : l.length ≤ xs.length := Nat.le_trans (nodup_len nd fun y hy => (mem y).mp hy) (by rw [List.length_take]; exact Nat.min_le_right _ _)
  refine x.add (by omega) fun b h' l' sb x' c => h b h' _ (Nat.le_succ _) sb ?_
  rw [show RelS P w S xs (i + 1) h' = _ from rfl, RelS, take_some hk]
  rcases c with ⟨rfl, hm⟩ | ⟨rfl, hm⟩
  · refine ⟨_, nd, fun y => ⟨fun z => List.mem_append_left _ ((mem y).mp z), fun z => ?_⟩, x'⟩
    rcases List.mem_append.mp z with z | z
    · exact (mem y).mpr z
    · rw [List.mem_singleton.mp z]; exact hm
  · refine ⟨_, List.nodup_cons.mpr ⟨hm, nd⟩, fun y => ⟨fun z => ?_, fun z => ?_⟩, x'⟩
    · rcases List.mem_cons.mp z with z | z
      · rw [z]; exact List.mem_append_right _ (List.mem_singleton.mpr rfl)
      · exact List.mem_append_left _ ((mem y).mp z)
    · rcases List.mem_append.mp z with z | z
      · exact List.mem_cons_of_mem _ ((mem y).mpr z)
      · rw [List.mem_singleton.mp z]; exact List.mem_cons_self
theorem strs_get : ∀ {xs : List Str} {us : List Value}, Vals (xs.map V.str) us → ∀ {i : Nat} {v : Value}, us[i]? = some v → ∃ k tk, xs[i]? = some k ∧ v = .str k tk
  | [], _, .nil, i, v, h => by simp at h
  | x :: xs, _, .cons r t, 0, v, h => by
    obtain ⟨tk, rfl⟩ := r
    cases h
    exact ⟨x, tk, rfl, rfl⟩
  | x :: xs, _, .cons r t, i + 1, v, h => by
    obtain ⟨k, tk, a, b⟩ := strs_get t (i := i) (v := v) (by simpa using h)
    exact ⟨k, tk, by simpa using a, b⟩
theorem perm_of_sub {α : Type} [BEq α] [LawfulBEq α] : ∀ {l m : List α}, l.Nodup → (∀ x ∈ l, x ∈ m) → m.length = l.length → m.Perm l
  | [], m, _, _, h => by rw [List.eq_nil_of_length_eq_zero h]
  | x :: l, m, nd, s, h => by
    obtain ⟨n1, n2⟩ := List.nodup_cons.mp nd
    have hx := s x List.mem_cons_self
    have ih := perm_of_sub (l := l) (m := m.erase x) n2 (fun y hy => (List.mem_erase_of_ne (fun e => n1 (by rw [← e]; exact hy))).mpr (s y (List.mem_cons_of_mem _ hy))) (by rw [List.length_erase_of_mem hx, h]; rfl)
    exact (List.perm_cons_erase hx).trans (ih.cons x)
/-- sorted of the set -/
theorem sorted_setS {S : Addr} {l : List Str} {Q : Value → Shared → Prop} (x : SetS P w S l s.heap) (nd : l.Nodup) (hh : A.handled = none) (hl : l.length < scanBound) (hu : A.units + 8 < cLine)
    (hQ : ∀ s' p (out : Array Value) (c : Nat) (ys : List Str), (∀ b o, s.heap.get? b = some o → s'.heap.get? b = some o) → s'.gens = s.gens → s'.os = s.os → s.heap.objs.size ≤ p →
      s'.heap.get? p = some (seqObj "list" out c) → Vals (ys.map V.str) out.toList → ys.Perm l → ys.Pairwise (fun a b => a.cps.toList ≤ b.cps.toList) → Q (.ref p) s') :
    wpAny (model P w) A (call (.builtin "sorted") [.ref S]) Q E s := by
  obtain ⟨⟨es, ep, t⟩, ho, F, r, led⟩ := x
  have sz : es.size = l.length := F.sz
  refine Calls.call_function_entry kind_sorted plain_sorted entry_sorted (args_sorted1 _) ?_
  unfold Builtin.«sorted»
  refine wpAny_bind (m := checkCount "sorted" 1 1 _) (wpAny_pure ?_)
  refine wpAny_bind (collect_set (A := A.in1) hh ⟨_, ho, rfl, rfl⟩ F.fit (by rw [sz]; exact hl) r led fun s1 vs k1 hz g1 o1 pm => ?_)
  have hvl : vs.length = l.length := by rw [pm.length_eq, List.length_map, Array.length_toList]; exact sz
  have hsc : l.length ≤ sizeLine := fits_of_scanBound hl
  -- what stands there
  have key : ∀ v ∈ vs, ∃ k tk, v = Value.str k tk ∧ k ∈ l := fun v hv => by
    obtain ⟨e, he, q⟩ := List.mem_map.mp (pm.mem_iff.mp hv)
    obtain ⟨⟨k, hk, _⟩, _⟩ := F.el e he
    obtain ⟨tk, hk2⟩ := Value.isStrOf_shape hk
    exact ⟨k, tk, by rw [← q]; exact hk2, (F.mem k).mpr ⟨e, he, hk⟩⟩
  obtain ⟨bs, hbs⟩ : ∃ bs : List Str, EachIs (fun v b => ∃ tk, v = Value.str b tk) vs bs := by
    clear pm hvl
    induction vs with
    | nil => exact ⟨[], .nil⟩
    | cons v vs ih =>
      obtain ⟨k, tk, e, _⟩ := key v List.mem_cons_self
      obtain ⟨bs, hb⟩ := ih fun u hu => key u (List.mem_cons_of_mem _ hu)
      exact ⟨k :: bs, .cons ⟨tk, e⟩ hb⟩
  have hbl : bs.length = l.length := by rw [← hbs.length]; exact hvl
  refine wpAny_bind (wpAny_newList ?_ (by rw [hvl]; exact hsc))
  have hoL : (s1.heap.push (seqObj "list" vs.toArray 0)).get? s1.heap.objs.size = some (seqObj "list" vs.toArray 0) := Heap.get?_push_size _ rfl
  refine wpAny_bind (wpAny_holding (PySem.W.list_sort_data (s := { s1 with heap := s1.heap.push (seqObj "list" vs.toArray 0) }) (enc := fun b : Str => PyData.str b) hoL hbs (hbs.mono fun v b ⟨tk, e⟩ => ⟨[], ⟨by rw [e]; exact .str _ _, by simp⟩⟩)
    (PySem.W.AllAlike.of fun _ _ => by simp [PySem.W.alike]) (PySem.W.Sortable.others fun b => ⟨(fun z => nomatch z), (fun _ z => nomatch z)⟩) (by rw [hbl]; exact hsc) (fun b _ => by show A.units + 1 + 1 + PyData.depth (.str b) < cLine; simp only [PyData.depth]; omega) fun out hlen ho2 => ?_))
  obtain ⟨c, hc⟩ := sortedHeap_at (vs := vs) (out := out.toArray) hoL
  have pw : (bs.mergeSort (PySem.W.dataLe false fun b : Str => PyData.str b)).Pairwise (fun a b => a.cps.toList ≤ b.cps.toList) := by
    rw [PySem.W.dataLe_str (fun b : Str => b)]
    refine (List.pairwise_mergeSort (le := fun a b : Str => decide (a.cps.toList ≤ b.cps.toList)) ?_ ?_ bs).imp fun h => of_decide_eq_true h
    · intro a b c h1 h2
      exact decide_eq_true (List.le_trans (of_decide_eq_true h1) (of_decide_eq_true h2))
    · intro a b
      rcases List.le_total a.cps.toList b.cps.toList with h | h
      · rw [decide_eq_true h]; rfl
      · rw [decide_eq_true h]; simp
  have pb : bs.Perm l := by
    refine perm_of_sub nd (fun k hk => ?_) hbl
    obtain ⟨e, he, pe⟩ := (F.mem k).mp hk
    obtain ⟨tk, e2⟩ := Value.isStrOf_shape pe
    have hv : e.2 ∈ vs := pm.mem_iff.mpr (List.mem_map.mpr ⟨e, he, rfl⟩)
    rw [e2] at hv
    clear pm hvl hoL hc ho2 hbl hlen key pw
    induction hbs with
    | nil => cases hv
    | cons h1 _ ih =>
      obtain ⟨tk', h1⟩ := h1
      rcases List.mem_cons.mp hv with z | z
      · rw [h1] at z; cases z; exact List.mem_cons_self
      · exact List.mem_cons_of_mem _ (ih z)
  refine wpAny_pure ⟨_, rfl, hQ _ s1.heap.objs.size out.toArray c _ (fun b u e => ?_) g1 o1 hz hc ?_ ((List.mergeSort_perm _ _).trans pb) pw⟩
  · have q := k1 b u e
    have hlt := Heap.lt_size q
    show (sortedHeap (s1.heap.push (seqObj "list" vs.toArray 0)) s1.heap.objs.size vs out.toArray).get? b = some u
    rw [sortedHeap_old (Nat.ne_of_lt hlt) (by rw [size_push']; exact Nat.lt_succ_of_lt hlt)]
    exact Heap.get?_push_of_some _ q
  · clear hc hlen
    generalize bs.mergeSort _ = zs at ho2
    show Vals (zs.map V.str) out
    induction ho2 with
    | nil => exact .nil
    | cons h1 _ ih => exact .cons h1 ih
end
end Kb

set_option Elab.async false
set_option linter.all false
set_option maxRecDepth 100000
set_option maxHeartbeats 8000000
/-! set(..) and sorted(set(..)) of texts, as rules of the layer. -/
namespace Kb
open PySem PySem.Spec PyProof.Rows L2
open Ka (Nm Res Mk Tr)
def SetSO (P : Program) (w : World) (a : Addr) (l : List Str) : HO := .ext fun h => SetS P w a l h
theorem setSO_new {P : Program} {w : World} {H : Hp} {h : Heap} {a : Addr} {l : List Str} (R : SetS P w a l h) : ObjOk P w H h a (SetSO P w a l) := by
  have ⟨D, ho, _⟩ := R
  exact ⟨R, ⟨_, ho⟩, fun h1 h2 p k => SetS.at p k⟩
section
variable {X : Cx}
def rSetStr (K : PySem.W.Frag) (P : Program) (w : World) : List V → Hp → VK → Prop := fun xs H Q => ∃ (q : Addr) (ns : List Str), xs = [V.ref q] ∧ (SqL K H q (ns.map V.str) ∨ SqT K H q (ns.map V.str)) ∧ ns.length ≤ 1000 ∧
  ∀ a l, H a = none → l.Nodup → (∀ k, k ∈ l ↔ k ∈ ns) → Q (.ref a) (upd H a (SetSO P w a l))
theorem cr_setStr (hc : X.calm = true) : CallR X (.type "set") (rSetStr X.K X.prog X.w) := by
  intro pins s σ H xs us Q I r h
  obtain ⟨a, ns, rfl, hl, hk, q⟩ := h
  rw [Vals.ref1 r]
  have hn : H s.heap.objs.size = none := I.hok.fresh (Nat.le_refl _)
  have relk : ∀ i (h h' : Heap), RelS X.prog X.w s.heap.objs.size ns i h → (∀ b o, b ≠ s.heap.objs.size + 1 → h.get? b = some o → h'.get? b = some o) → RelS X.prog X.w s.heap.objs.size ns i h' := fun i h h' ⟨l, nd, m, x⟩ k =>
    ⟨l, nd, m, x.at fun o e => k _ o (Nat.ne_of_lt (Nat.lt_succ_self _)) e⟩
  have rel0 : ∀ h' : Heap, h'.get? s.heap.objs.size = some (set0 X.w) → (∀ b o, s.heap.get? b = some o → h'.get? b = some o) → RelS X.prog X.w s.heap.objs.size ns 0 h' := fun h' e _ => ⟨[], List.nodup_nil, fun k => by simp, SetS.fresh e⟩
  have hb : ns.length + 2 < scanBound := by unfold scanBound; omega
  have fin : ∀ (h' : Heap) (tk : Nat), RelS X.prog X.w s.heap.objs.size ns ns.length h' → (∀ b o, s.heap.get? b = some o → h'.get? b = some o) →
      ∃ v H', Inv X pins σ H' { s with heap := h', toks := tk } ∧ RelV v (.ref s.heap.objs.size) ∧ Q v H' := fun h' tk ⟨l, nd, m, x⟩ k =>
    ⟨.ref s.heap.objs.size, _, I.laid (t' := tk) k (Nat.le_refl _) (setSO_new x), rfl, q _ l hn nd fun y => by rw [m, List.take_length]⟩
  rcases hl with hl | hl
  · obtain ⟨its, rv, pl, hz⟩ := I.list hl
    have hs : its.toArray.size = ns.length := by rw [List.size_toArray, ← rv.length, List.length_map]
    refine call_set_list (I.ok.hd hc) pl.isList (RelS X.prog X.w s.heap.objs.size ns) relk rel0 (fun A' _ => ?_) fun h' tk hr k => fin h' tk (by rw [hs] at hr; exact hr) k
    rw [hs]
    intro i v s' Q' E' hi hv hrel hq
    obtain ⟨k, tk, e1, e2⟩ := strs_get rv (i := i) (v := v) (by simpa using hv)
    exact addS hb A' i v s' Q' E' hi ⟨k, tk, e1, e2⟩ hrel hq
  · obtain ⟨its, rv, pl, hz⟩ := I.tuple hl
    have hs : its.toArray.size = ns.length := by rw [List.size_toArray, ← rv.length, List.length_map]
    refine call_set_tuple (I.ok.hd hc) pl (RelS X.prog X.w s.heap.objs.size ns) relk rel0 (fun A' _ => ?_) fun h' tk hr k => fin h' tk (by rw [hs] at hr; exact hr) k
    rw [hs]
    intro i v s' Q' E' hi hv hrel hq
    obtain ⟨k, tk, e1, e2⟩ := strs_get rv (i := i) (v := v) (by simpa using hv)
    exact addS hb A' i v s' Q' E' hi ⟨k, tk, e1, e2⟩ hrel hq
def rSortedStr (P : Program) (w : World) : List V → Hp → VK → Prop := fun vs H Q => ∃ (a : Addr) (l : List Str), vs = [V.ref a] ∧ H a = some (SetSO P w a l) ∧ l.Nodup ∧ l.length ≤ 1000 ∧
  ∀ (ys : List Str) (p : Addr), ys.Perm l → ys.Pairwise (fun a b => a.cps.toList ≤ b.cps.toList) → H p = none → Q (.ref p) (upd H p (.lst (ys.map V.str)))
theorem inv_list {pins : List (Addr × Obj)} {σ : L2.St} {H : Hp} {s s' : Shared} {p : Addr} {xs : List V} {out : Array Value} {c : Nat} (I : Inv X pins σ H s) (k : ∀ b o, s.heap.get? b = some o → s'.heap.get? b = some o) (g : s'.gens = s.gens) (o : s'.os = s.os)
    (hp : s.heap.objs.size ≤ p) (hg : s'.heap.get? p = some (seqObj "list" out c)) (hv : Vals xs out.toList) (hz : xs.length ≤ sizeLine) : Inv X pins σ (upd H p (.lst xs)) s' := by
  have hn : H p = none := I.hok.fresh hp
  exact I.call' (ch := []) o (Un.laid k hp hn) (I.hok.laid k hp ⟨hz, out.toList, c, hv, hg⟩) (by rw [g]; exact I.bare) (fun _ z => nomatch z)
theorem cr_sortedStr (hc : X.calm = true) (hu : X.A.units + 64 < cLine) : CallR X (.builtin "sorted") (rSortedStr X.prog X.w) := by
  intro pins s σ H vs us Q I r h
  obtain ⟨a, l, rfl, ha, nd, hl, q⟩ := h
  have R : SetS X.prog X.w a l s.heap := (I.hok a _ ha).1
  rw [Vals.ref1 r]
  refine sorted_setS R nd (I.ok.hd hc) (by unfold scanBound; omega) (by omega) fun s' p out c ys k g o hp hg hv pm pw => ?_
  have hlen : (ys.map V.str).length ≤ sizeLine := by rw [List.length_map, pm.length_eq, sizeLine_eq]; omega
  exact ⟨.ref p, _, inv_list I k g o hp hg hv hlen, rfl, q ys p pm pw (I.hok.fresh hp)⟩
end
theorem str_ext {a b : Str} (h : a.cps.toList = b.cps.toList) : a = b := by
  cases a; cases b
  simp only [Str.mk.injEq]
  exact Array.toList_inj.mp h
theorem nmS_inj {m n : Nm} (h : nmS m = nmS n) : m = n := by
  revert h; cases m <;> cases n <;> decide +kernel
theorem resS_inj {m n : Res} (h : resS m = resS n) : m = n := by
  revert h; cases m <;> cases n <;> decide +kernel
theorem nodup_map {α β : Type} {f : α → β} (hf : ∀ a b, f a = f b → a = b) : ∀ {l : List α}, l.Nodup → (l.map f).Nodup
  | [], _ => List.nodup_nil
  | a :: l, h => by
    obtain ⟨h1, h2⟩ := List.nodup_cons.mp h
    rw [List.map_cons, List.nodup_cons]
    refine ⟨fun z => ?_, nodup_map hf h2⟩
    obtain ⟨b, hb, e⟩ := List.mem_map.mp z
    exact h1 (by rw [← hf _ _ e]; exact hb)
def sel (ns : List Nm) : List Nm := Nm.all.filter fun n => decide (n ∈ ns)
theorem sorted_names {ns : List Nm} {l ys : List Str} (nd : l.Nodup) (mem : ∀ k, k ∈ l ↔ k ∈ ns.map nmS) (pm : ys.Perm l) (pw : ys.Pairwise (fun a b => a.cps.toList ≤ b.cps.toList)) : ys = (sel ns).map nmS := by
  have nd2 : ((sel ns).map nmS).Nodup := nodup_map (fun _ _ => nmS_inj) (List.Pairwise.filter _ (by decide))
  refine List.Perm.eq_of_pairwise (fun a b _ _ h1 h2 => str_ext (List.le_antisymm h1 h2)) pw ?_ ?_
  · rw [List.pairwise_map]
    refine List.Pairwise.filter _ ?_
    decide +kernel
  · refine pm.trans ((List.perm_ext_iff_of_nodup nd nd2).mpr fun k => ?_)
    rw [mem, List.mem_map, List.mem_map]
    constructor
    · rintro ⟨n, hn, e⟩
      exact ⟨n, by simp [sel, hn, Nm.mem_all], e⟩
    · rintro ⟨n, hn, e⟩
      exact ⟨n, by simpa [sel, Nm.mem_all] using hn, e⟩
/-- a list of names -/
def nms (ns : List Nm) : List V := ns.map fun n => V.str (nmS n)
theorem nms_eq (ns : List Nm) : nms ns = (ns.map nmS).map V.str := by unfold nms; rw [List.map_map]; rfl
section
variable {X : Cx}
/-- sorted(set(e)), e a list or tuple of names: behind e -/
theorem names_step {K : PySem.W.Frag} {P : Program} {w : World} {q : Addr} {ns : List Nm} {H1 : Hp} {Q : VK} (h1 : SqL K H1 q (nms ns) ∨ SqT K H1 q (nms ns)) (h2 : ns.length ≤ 1000)
    (k : ∀ H2 p, Evl.Ex H1 H2 → H2 p = none → Q (.ref p) (upd H2 p (.lst (nms (sel ns))))) : rSetStr K P w [.ref q] H1 fun y H2 => rSortedStr P w [y] H2 Q := by
  rw [nms_eq] at h1
  refine ⟨q, ns.map nmS, rfl, h1, by rw [List.length_map]; exact h2, fun a l ha nd mem => ⟨a, l, rfl, upd_same, nd, ?_, fun ys p pm pw hp => ?_⟩⟩
  · refine Nat.le_trans (nodup_len nd fun x hx => (mem x).mp hx) ?_
    rw [List.length_map]; exact h2
  · rw [sorted_names nd mem pm pw, ← nms_eq]
    exact k _ p (Evl.Ex.new ha) hp
theorem PE.weaken {e : Expr} {t t' : TE} (h : PE X e t) (i : ∀ σ H Q, t' σ H Q → t σ H Q) : PE X e t' := ⟨fun pins s σ H Q I hw => h.run pins s σ H Q I (i σ H Q hw)⟩
theorem PE.up {e : Expr} {te : TE} (h : PE X e te) : PE X e (fun σ H Q => ∃ Q0, te σ H Q0 ∧ ∀ v H1, Q0 v H1 → Q v H1) := ⟨fun pins s σ H Q I ⟨Q0, h0, k⟩ => thn (h.run pins s σ H Q0 I h0) fun u s' ⟨v, H', I', r, q⟩ => ⟨v, H', I', r, k v H' q⟩⟩
/-- sorted(set(e)) as one: behind e -/
def kNames (K : PySem.W.Frag) (v : V) (H1 : Hp) (Q : VK) : Prop := ∃ q ns, v = .ref q ∧ (SqL K H1 q (nms ns) ∨ SqT K H1 q (nms ns)) ∧ ns.length ≤ 1000 ∧ ∀ H2 p, Evl.Ex H1 H2 → H2 p = none → Q (.ref p) (upd H2 p (.lst (nms (sel ns))))
def tNames (K : PySem.W.Frag) (te : TE) : TE := fun σ H Q => te σ H fun v H1 => kNames K v H1 Q
theorem pe_names {e : Expr} {te : TE} {p p2 pos pos2 : Pos} (hc : X.calm = true) (hu : X.A.units + 64 < cLine) (hg : Gl X "sorted") (hm : X.mg "sorted" = none) (hg2 : Gl X "set") (hm2 : X.mg "set" = none) (he : PE X e te)
    (na : starEach [e] X.env = (false, eval e X.env) :: starEach [] X.env := by rfl) : PE X (.Call (.Name "sorted" p) [.Call (.Name "set" p2) [e] [] pos2] [] pos) (tNames X.K te) := by
  refine PE.weaken (pe_callB (p := p) (pos := pos) (cr_sortedStr hc hu) hg hm PyProof.Rows.boot_sorted (pa_cons (pe_callTy (p := p2) (pos := pos2) (cr_setStr hc) hg2 hm2 PyProof.Rows.boot_set (pa_cons (PE.up he) pa_nil na) (he := na)) pa_nil)) fun σ H Q h => ?_
  refine ⟨_, h, fun v H1 ⟨q, ns, e, h1, h2, k⟩ => ?_⟩
  subst e
  exact names_step h1 h2 k
end
end Kb

set_option Elab.async false
set_option linter.all false
set_option maxRecDepth 100000
set_option maxHeartbeats 8000000
/-! Sets of few tuples of texts. -/
namespace Kb
open PySem PySem.Spec PyProof.Rows L2
open PySem.W (EachIs)
section
variable {P : Program} {w : World} {A : Around} {E : Value → Shared → Prop} {s : Shared}
variable (P w) in
/-- the hash of a tuple of texts -/
abbrev hu (k : List Str) : Int := tupleKeyHash (strKind P w) k
variable (P w) in
abbrev IsU (h : Heap) (p : Addr × List Str) : Prop := IsTupleKey (strKind P w) h p.2 p.1
theorem IsU.keep {h h' : Heap} {p : Addr × List Str} (x : IsU P w h p) (k : ∀ o, h.get? p.1 = some o → h'.get? p.1 = some o) : IsU P w h' p := by
  obtain ⟨o, items, n, ho, r⟩ := x
  exact ⟨o, items, n, k o ho, r⟩
variable (P w) in
abbrev rowsU (L : List (Addr × List Str)) : List (Int × Value) := L.map fun p => (hu P w p.2, Value.ref p.1)
/-- the set's object: the tuples L, in the order of its table -/
structure SetU (P : Program) (w : World) (S : Addr) (L : List (Addr × List Str)) (es : Array (Int × Value)) (ep : Nat) (t : SetTable) (h : Heap) : Prop where
  ob : ∃ o, h.get? S = some o ∧ o.ExactSet ∧ o.data = .set es ep t
  rows : es.toList = rowsU P w L
  tab : TabOk t (L.map fun p => hu P w p.2)
  nd : (L.map (·.2)).Nodup
  led : w.params.followText "set-order" = true ∨ t.led = true
  m7 : t.mask = 7
  few : L.length ≤ 4
variable {S : Addr} {L : List (Addr × List Str)} {es : Array (Int × Value)} {ep : Nat} {t : SetTable}
theorem SetU.size {h : Heap} (R : SetU P w S L es ep t h) : es.size = L.length := by rw [← Array.length_toList, R.rows, List.length_map]
theorem SetU.psize {h : Heap} (R : SetU P w S L es ep t h) : t.place.size = L.length := by rw [R.tab.sz, List.length_map]
theorem SetU.fits {h : Heap} (R : SetU P w S L es ep t h) : t.fits es.size = true := by
  have a := R.size
  have b := R.psize
  have c := R.few
  unfold SetTable.fits SetTable.fill
  rw [R.tab.dm, R.m7, Bool.and_eq_true, beq_iff_eq, decide_eq_true_eq]
  exact ⟨by omega, by show t.place.size + 0 ≤ 7; omega⟩
theorem SetU.ent {h : Heap} (R : SetU P w S L es ep t h) {i : Nat} {p : Addr × List Str} (e : L[i]? = some p) : es[i]? = some (hu P w p.2, Value.ref p.1) := by
  rw [← Array.getElem?_toList, R.rows, List.getElem?_map, e]; rfl
theorem SetU.gw {h : Heap} (R : SetU P w S L es ep t h) : ¬ t.gaveWay = true := by
  unfold SetTable.gaveWay
  rw [R.m7]; decide
/-- small questions of tuples of texts -/
theorem items_str {k : List Str} {vs : List Value} (h : ItemsAre (strKind P w) k vs) : ∀ v ∈ vs, ∃ x u, v = Value.str x u := by
  induction h with
  | nil => intro v hv; cases hv
  | cons h1 _ ih =>
    intro v hv
    rcases List.mem_cons.mp hv with e | hv
    · obtain ⟨u, e2⟩ := Value.isStrOf_shape h1
      exact ⟨_, u, e.trans e2⟩
    · exact ih v hv
theorem noClass {p : Addr × List Str} {Q : Bool → Shared → Prop} (hp : IsU P w s.heap p) (h : Q false s) : wpAny (model P w) A (ofAClassStatement 8 (.ref p.1)) Q E s := by
  have hT := hp.typeIs
  obtain ⟨o, items, n, ho, _, hd, hi⟩ := hp
  unfold ofAClassStatement
  refine wpAny_bind (wpAny_typeOf hT ?_)
  dsimp only
  simp only [show (("tuple" : String) == "tuple") = true from by decide, if_true, Bool.not_true, Bool.false_eq_true, if_false]
  try refine wpAny_bind (wpAny_pure ?_)
  try simp only [Bool.not_true, Bool.false_eq_true, if_false]
  show wpAny _ _ (seqItems? (.ref p.1) >>= _) _ _ s
  refine wpAny_bind (wpAny_seqItems ho hd ?_)
  dsimp only
  refine wpAny_bind ?_
  show wpAny _ _ (forIn items _ _) _ _ s
  rw [← Array.forIn_toList]
  refine wpAny_forIn_list _ (fun rest r s' => r.1 = none ∧ s' = s ∧ ∀ v ∈ rest, ∃ x u, v = Value.str x u) _ ?_ ?_ _ _ ⟨rfl, rfl, items_str hi⟩
  · rintro v rest r s' ⟨hr, rfl, hall⟩
    obtain ⟨x, u, rfl⟩ := hall v List.mem_cons_self
    refine wpAny_bind (m := ofAClassStatement 7 (.str x u)) (wpAny_of_eq (a := false) (by rfl) ?_)
    simp only [Bool.false_eq_true, if_false]
    exact wpAny_pure ⟨rfl, rfl, fun u hu' => hall u (List.mem_cons_of_mem _ hu')⟩
  · rintro ⟨r1, r2⟩ s' ⟨hr, rfl, _⟩
    simp only at hr
    subst hr
    exact wpAny_pure h
/-- by its value or not: no matter -/
theorem hashBy {p : Addr × List Str} {Q : Bool → Shared → Prop} (hp : IsU P w s.heap p) (h : ∀ b, Q b s) : wpAny (model P w) A (hashByValue 8 (.ref p.1)) Q E s := by
  have hT := hp.typeIs
  obtain ⟨o, items, n, ho, _, hd, hi⟩ := hp
  unfold hashByValue
  refine wpAny_bind (wpAny_specialOf hT F.slot_tuple_hash.lookup ?_)
  show wpAny _ _ (seqItems? (.ref p.1) >>= _) _ _ s
  refine wpAny_bind (wpAny_seqItems ho hd ?_)
  refine wpAny_bind ?_
  show wpAny _ _ (forIn items _ _) _ _ s
  rw [← Array.forIn_toList]
  refine wpAny_forIn_list _ (fun rest r s' => r.1 = none ∧ s' = s ∧ ∀ v ∈ rest, ∃ x u, v = Value.str x u) _ ?_ ?_ _ _ ⟨rfl, rfl, items_str hi⟩
  · rintro v rest r s' ⟨hr, rfl, hall⟩
    obtain ⟨x, u, rfl⟩ := hall v List.mem_cons_self
    refine wpAny_bind (m := hashByValue 7 (.str x u)) (wpAny_of_eq (a := false) (by rfl) ?_)
    simp only [Bool.not_false, if_true]
    exact wpAny_pure (wpAny_pure (h _))
  · rintro ⟨r1, r2⟩ s' ⟨hr, rfl, _⟩
    simp only at hr
    subst hr
    exact wpAny_pure (h _)

/-- a search among tuples of texts shows nothing -/
theorem unseen {p : Addr × List Str} {Q : Bool → Shared → Prop} (hp : IsU P w s.heap p) {ys : List Value} (hy : ∀ y ∈ ys, ∃ q, y = Value.ref q.1 ∧ IsU P w s.heap q) (h : Q false s) :
    wpAny (model P w) A (searchCouldBeSeen (.ref p.1) ys) Q E s := by
  unfold searchCouldBeSeen
  refine wpAny_bind ?_
  refine wpAny_forIn_list _ (fun rest r s' => r.1 = none ∧ s' = s ∧ ∀ y ∈ rest, ∃ q, y = Value.ref q.1 ∧ IsU P w s.heap q) _ ?_ ?_ _ _ ⟨rfl, rfl, hy⟩
  · rintro v rest r s' ⟨hr, rfl, hall⟩
    obtain ⟨q, rfl, hq⟩ := hall v List.mem_cons_self
    have tl : ∀ y ∈ rest, ∃ q, y = Value.ref q.1 ∧ IsU P w s'.heap q := fun u hu => hall u (List.mem_cons_of_mem _ hu)
    dsimp only
    by_cases hv : (p.1 == q.1 || (carriedByValue (.ref p.1) && carriedByValue (.ref q.1))) = true
    · exact wp_if_pos hv (wpAny_pure ⟨rfl, rfl, tl⟩)
    · refine wp_if_neg hv (wpAny_bind (wpAny_eqIsQuiet_tuple hp ?_))
      simp only [Bool.not_true, Bool.false_eq_true, if_false]
      refine wpAny_bind (wpAny_eqIsQuiet_tuple hq ?_)
      simp only [Bool.not_true, Bool.false_eq_true, if_false]
      refine wpAny_bind (noClass hp ?_)
      simp only [Bool.false_eq_true, if_false]
      refine wpAny_bind (noClass hq ?_)
      simp only [Bool.false_eq_true, if_false]
      exact wpAny_pure ⟨rfl, rfl, tl⟩
  · rintro ⟨r1, r2⟩ s' ⟨hr, rfl, _⟩
    simp only at hr
    subst hr
    exact wpAny_pure h
/-- the c-th stand of the way of a hash -/
abbrev stnd (t : SetTable) (h : Int) (c : Nat) : SetTable.Probe := nth t.mask (runAt t.mask (SetTable.bits h % (t.mask + 1)) (SetTable.bits h)) c
theorem nth_dummy (m : Nat) : ∀ (n : Nat) (p : SetTable.Probe), p.dummy = none → (nth m p n).dummy = none
  | 0, _, h => h
  | n + 1, p, h => nth_dummy m n (adv m p) (by unfold adv; split <;> exact h)
/-- the search, from the c-th stand on -/
theorem hunt (R : SetU P w S L es ep t s.heap) (tup : ∀ p ∈ L, IsU P w s.heap p) {x : Addr} {k : List Str} (hx : IsU P w s.heap (x, k)) (un : A.units < cLine) {K : Nat} (hKf : K < 10 * SetTable.turns t.mask)
    (hK : way t.mask (hu P w k) K ∉ t.place.toList) (hKb : ∀ c, c < K → way t.mask (hu P w k) c ∈ t.place.toList) {Q : SetFound → Shared → Prop}
    (hin : k ∈ L.map (·.2) → Q (.there none) s) (hout : k ∉ L.map (·.2) → Q (.free (way t.mask (hu P w k) K) false) s) :
    ∀ (f c : Nat) (stand : Option SetTable.Probe), stand.getD (t.probeStart (hu P w k)) = stnd t (hu P w k) c → c ≤ K → K - c < f →
      (∀ (i : Nat) p, L[i]? = some p → p.2 = k → ∃ c', c ≤ c' ∧ c' < K ∧ t.place.toList[i]? = some (way t.mask (hu P w k) c')) →
      wpAny (model P w) A (setSearchFrom S (.ref x) (hu P w k) true f stand) Q E s := by
  intro f
  induction f with
  | zero => intro c stand _ _ hf _; exact absurd hf (Nat.not_lt_zero _)
  | succ f ih =>
    intro c stand hst hc hf left
    obtain ⟨o, ho, hex, hd⟩ := R.ob
    have shift : ∀ q, nth t.mask (stnd t (hu P w k) c) q = stnd t (hu P w k) (c + q) := fun q => (nth_add t.mask c _ q).symm
    have shj : ∀ q, (nth t.mask (stnd t (hu P w k) c) q).j = way t.mask (hu P w k) (c + q) := fun q => congrArg SetTable.Probe.j (shift q)
    have hash : ∀ {i : Nat} {p : Addr × List Str}, L[i]? = some p → (es[i]?.map (·.1)).getD 0 = hu P w p.2 := fun hp => by rw [R.ent hp]; rfl
    rw [setSearchFrom_succ]
    refine wpAny_bind (wpAny_setState_of ho hd R.fits ?_)
    dsimp only
    refine wp_if_neg R.gw ?_
    try refine wpAny_bind (wpAny_pure ?_)
    have eK : c + (K - c) = K := by omega
    rcases go_spec t R.tab.ris R.tab.dm (fun i => (es[i]?.map (·.1)).getD 0) (hu P w k) (10 * SetTable.turns t.mask) (K - c) (stnd t (hu P w k) c) (nth_dummy _ c _ rfl) (by omega)
      (fun q hq => by rw [shj]; exact hKb _ (by omega)) (by rw [shj, eK]; exact hK) with ⟨q, i, hq, hi, hh, pass, hpr⟩ | ⟨pass, hpr⟩
    · rw [shj, shift] at hpr
      rw [shj] at hi
      have il : i < L.length := by
        have z : i < t.place.toList.length := (List.getElem?_eq_some_iff.mp hi).1
        rw [Array.length_toList, R.psize] at z
        exact z
      obtain ⟨p, hp⟩ : ∃ p, L[i]? = some p := ⟨_, List.getElem?_eq_getElem il⟩
      have hpm := List.mem_of_getElem? hp
      have hpr2 : t.probe (fun i => (es[i]?.map (·.1)).getD 0) (hu P w k) (stand.getD (t.probeStart (hu P w k))) = some (.candidate (way t.mask (hu P w k) (c + q)) i (stnd t (hu P w k) (c + (q + 1)))) := by
        rw [hst]; exact hpr
      rw [hpr2]
      dsimp only
      have go : wpAny (model P w) A (searchRest S (.ref x) (hu P w k) true f es t (way t.mask (hu P w k) (c + q)) i (stnd t (hu P w k) (c + (q + 1)))) Q E s := by
        unfold searchRest
        rw [R.ent hp]
        dsimp only
        refine wpAny_bind (wpAny_holding (wpAny_eqBool_tuple un (tup p hpm) hx ?_))
        refine wpAny_bind (wpAny_setState_of ho hd R.fits ?_)
        dsimp only
        by_cases same : p.2 = k
        · refine wp_if_pos (by simp [same]) (wpAny_pure (hin (List.mem_map.mpr ⟨p, hpm, same⟩)))
        · have live := slot_live R.tab.ris hi
          refine wp_if_neg (by simp [same]) ?_
          try refine wpAny_bind (wpAny_pure ?_)
          rw [sameMem]
          dsimp only
          simp only [if_true, live, R.ent hp]
          refine wpAny_bind (wpAny_isSame_ref_self (wpAny_bind (wpAny_pure ?_)))
          simp only [if_true]
          refine wp_if_neg (by simp [same]) ?_
          refine ih (c + (q + 1)) _ rfl (by omega) (by omega) fun i0 p0 h0 hk0 => ?_
          obtain ⟨c', a1, a2, a3⟩ := left i0 p0 h0 hk0
          refine ⟨c', ?_, a2, a3⟩
          rcases Nat.lt_trichotomy c' (c + q) with z | z | z
          · exact absurd ((hash h0).trans (congrArg (hu P w) hk0)) (pass (c' - c) i0 (by omega) (by rw [shj, show c + (c' - c) = c' by omega]; exact a3))
          · rw [z] at a3
            have z2 := slot_live R.tab.ris a3
            rw [live] at z2
            injection z2 with z2
            rw [← z2, hp] at h0
            exact absurd ((congrArg Prod.snd (Option.some.inj h0)).trans hk0) same
          · omega
      by_cases hl : t.led = true
      · refine wp_if_neg (by simp [hl]) ?_
        try refine wpAny_bind (wpAny_pure ?_)
        exact go
      · refine wp_if_pos (by simp [hl]) (wpAny_bind (unseen hx (fun y hy => ?_) ?_))
        · obtain ⟨e, he, rfl⟩ := List.mem_map.mp hy
          have he2 : e ∈ es.toList := by
            have z : e ∈ es ∧ e.1 = hu P w k := by simpa using he
            simpa using z.1
          rw [R.rows] at he2
          obtain ⟨p2, hp2, rfl⟩ := List.mem_map.mp he2
          exact ⟨p2, rfl, tup p2 hp2⟩
        · refine wp_if_neg (by decide) ?_
          try refine wpAny_bind (wpAny_pure ?_)
          exact go
    · rw [shj, eK] at hpr
      have hpr2 : t.probe (fun i => (es[i]?.map (·.1)).getD 0) (hu P w k) (stand.getD (t.probeStart (hu P w k))) = some (.empty (way t.mask (hu P w k) K) none) := by
        rw [hst]; exact hpr
      rw [hpr2]
      dsimp only
      refine wpAny_pure (hout fun hm => ?_)
      obtain ⟨p0, h0, hk0⟩ := List.mem_map.mp hm
      obtain ⟨i0, hi0, e0⟩ := List.getElem_of_mem h0
      have h00 : L[i0]? = some p0 := by rw [List.getElem?_eq_getElem hi0, e0]
      obtain ⟨c', a1, a2, a3⟩ := left i0 p0 h00 hk0
      exact pass (c' - c) i0 (by omega) (by rw [shj, show c + (c' - c) = c' by omega]; exact a3) ((hash h00).trans (congrArg (hu P w) hk0))

theorem seek (R : SetU P w S L es ep t s.heap) (tup : ∀ p ∈ L, IsU P w s.heap p) {x : Addr} {k : List Str} (hx : IsU P w s.heap (x, k)) (un : A.units < cLine) {Q : SetFound → Shared → Prop}
    (hin : k ∈ L.map (·.2) → Q (.there none) s)
    (hout : ∀ K, k ∉ L.map (·.2) → way t.mask (hu P w k) K ∉ t.place.toList → (∀ c, c < K → way t.mask (hu P w k) c ∈ t.place.toList) → Q (.free (way t.mask (hu P w k) K) false) s) :
    wpAny (model P w) A (setSearch S (.ref x) (hu P w k) true) Q E s := by
  obtain ⟨K, hKf, hK, hKb⟩ := R.tab.first (by have := R.few; rw [List.length_map, R.m7]; omega) (hu P w k)
  have big : K < 100000 := by
    have z : 10 * SetTable.turns t.mask ≤ 1420 := by rw [R.m7]; decide
    omega
  unfold setSearch
  refine hunt R tup hx un hKf hK hKb hin (fun hn => hout K hn hK hKb) 100000 0 none rfl (Nat.zero_le _) (by omega) fun i p hp hk => ?_
  have il : i < t.place.toList.length := by
    have z : i < L.length := (List.getElem?_eq_some_iff.mp hp).1
    rw [Array.length_toList, R.psize]; exact z
  have hj := List.getElem?_eq_getElem il
  obtain ⟨c, hc, e⟩ := R.tab.before hK (i := i) (h := hu P w k) (by rw [List.getElem?_map, hp, ← hk]; rfl) hj
  exact ⟨c, Nat.zero_le _, hc, by rw [hj, e]⟩
theorem addU (R : SetU P w S L es ep t s.heap) (tup : ∀ p ∈ L, IsU P w s.heap p) {x : Addr} {k : List Str} (hx : IsU P w s.heap (x, k)) (un : A.units + 1 < cLine) (room : k ∉ L.map (·.2) → L.length + 1 ≤ 4) {Q : Bool → Shared → Prop}
    (hQ : ∀ b h' L' es' ep' t' tk, s.toks ≤ tk → Heap.SameBut S s.heap h' → SetU P w S L' es' ep' t' h' → (k ∈ L.map (·.2) ∧ L' = L) ∨ (k ∉ L.map (·.2) ∧ L'.Perm ((x, k) :: L)) → Q b { s with heap := h', toks := tk }) :
    wpAny (model P w) A (setAdd S (.ref x)) Q E s := by
  obtain ⟨o, ho, hex, hd⟩ := R.ob
  unfold setAdd
  refine wpAny_holding (wpAny_bind ((tupleKind (strKind P w)).pyHash (k := k) (show A.units < cLine by omega) hx ?_))
  have htk : s.toks ≤ s.toks + (tupleKind (strKind P w)).draws k := Nat.le_add_right _ _
  generalize s.toks + (tupleKind (strKind P w)).draws k = tk at htk ⊢
  unfold setAddHashed
  refine wpAny_holding ?_
  show wpAny _ _ (setAddHashedIn S (.ref x) (hu P w k) 100000) _ _ _
  rw [show (100000 : Nat) = 99999 + 1 from rfl, setAddHashedIn_succ]
  refine wpAny_bind (wpAny_setState_of (s := { s with toks := tk }) ho hd R.fits ?_)
  dsimp only
  refine wp_if_neg (by simp [byScan, Value.scannable]) ?_
  try refine wpAny_bind (wpAny_pure ?_)
  refine wpAny_bind (seek (s := { s with toks := tk }) R tup hx (by omega) (fun hm => ?_) fun K hm hK hb => ?_)
  · exact wpAny_pure (hQ false s.heap L es ep t tk htk (Heap.SameBut.refl S s.heap) R (.inl ⟨hm, rfl⟩))
  · dsimp only
    refine wpAny_bind (wpAny_setState_of (s := { s with toks := tk }) ho hd R.fits ?_)
    dsimp only
    obtain ⟨q1, q2, q3, q4, q5, q6, q7, q8, q9⟩ := R.tab.put hK hb
    generalize hpt : t.put (way t.mask (hu P w k) K) = pt at q1 q3 q4 q5 q6 q7 q8 q9 ⊢
    obtain ⟨t1, p⟩ := pt
    dsimp only at q1 q3 q4 q5 q6 q7 q8 q9 ⊢
    subst q1
    have hin : (SetTable.insertAt es (SetTable.below t.place (way t.mask (hu P w k) K)) (hu P w k, Value.ref x)).toList = rowsU P w (L.take (SetTable.below t.place (way t.mask (hu P w k) K)) ++ (x, k) :: L.drop (SetTable.below t.place (way t.mask (hu P w k) K))) := by
      rw [SetTable.toList_insertAt, R.rows]
      unfold rowsU
      rw [List.map_append, List.map_cons, List.map_take, List.map_drop]
    generalize SetTable.below t.place (way t.mask (hu P w k) K) = p at q2 q3 hin ⊢
    have pm : (L.take p ++ (x, k) :: L.drop p).Perm ((x, k) :: L) := put_perm L p (x, k)
    have hlen : (L.take p ++ (x, k) :: L.drop p).length = L.length + 1 := pm.length_eq
    rw [show (L.map fun p => hu P w p.2).take p ++ hu P w k :: (L.map fun p => hu P w p.2).drop p = (L.take p ++ (x, k) :: L.drop p).map (fun p => hu P w p.2) by rw [List.map_append, List.map_cons, List.map_take, List.map_drop]] at q3
    have nd1 : ((L.take p ++ (x, k) :: L.drop p).map (·.2)).Nodup := (pm.map (·.2)).nodup_iff.mpr (List.nodup_cons.mpr ⟨hm, R.nd⟩)
    have h4 := room hm
    have hes : (SetTable.insertAt es p (hu P w k, Value.ref x)).size = L.length + 1 := by rw [← Array.length_toList, hin, List.length_map, hlen]
    generalize SetTable.insertAt es p (hu P w k, Value.ref x) = es1 at hin hes ⊢
    generalize L.take p ++ (x, k) :: L.drop p = L1 at pm hlen q3 nd1 hin
    -- the rest, whatever plain says
    have rest : ∀ (t2 : SetTable), TabOk t2 (L1.map fun p => hu P w p.2) → t2.mask = 7 → t2.led = t.led → t2.fill = L.length + 1 → ∀ {F : Bool → Sem Bool}, (∀ b, F b = (if (!false && t2.tooFull) = true then (setRelay S (SetTable.grown (es.size + 1)) >>= fun _ => pure true) else pure true)) →
        wpAny (model P w) A (storeSet S es1 t2 >>= fun _ => F true) Q E { s with toks := tk } := by
      intro t2 T2 m2 l2 f2 F hF
      refine wpAny_bind (wpAny_storeSet_of (s := { s with toks := tk }) ho hd ?_ (by rw [hes, sizeLine_eq]; omega))
      rw [hF]
      have nf : ¬ (!false && t2.tooFull) = true := by
        unfold SetTable.tooFull
        rw [f2, m2]
        simp; omega
      refine wp_if_neg nf ?_
      try refine wpAny_bind (wpAny_pure ?_)
      refine wpAny_pure (hQ true _ L1 es1 (ep + 1) t2 tk htk (Heap.SameBut.update ..) ⟨⟨_, store_at ho hd, ⟨hex.1, hex.2.1, hex.2.2⟩, rfl⟩, hin, T2, nd1, by rw [l2]; exact R.led, m2, by omega⟩ (.inr ⟨hm, pm⟩))
    have qf : t1.fill = L.length + 1 := by rw [q9, List.length_map]
    have plain2 : ∀ b : Bool, TabOk (if b = true then t1 else { t1 with plain := false }) (L1.map fun p => hu P w p.2) ∧ (if b = true then t1 else { t1 with plain := false }).mask = 7 ∧ (if b = true then t1 else { t1 with plain := false }).led = t.led ∧ (if b = true then t1 else { t1 with plain := false }).fill = L.length + 1 := by
      intro b
      cases b
      · exact ⟨⟨q3.ris, q3.dm, q3.sz, q3.mok, q3.bd, q3.reach⟩, q4.trans R.m7, q5, qf⟩
      · exact ⟨q3, q4.trans R.m7, q5, qf⟩
    by_cases hpl : t1.plain = true
    · first
        | (refine wpAny_bind ?_; refine wp_if_pos hpl ?_; refine hashBy (s := { s with toks := tk }) hx fun b => ?_)
        | refine wp_if_pos hpl (wpAny_bind (hashBy (s := { s with toks := tk }) hx fun b => ?_))
      obtain ⟨a1, a2, a3, a4⟩ := plain2 b
      exact rest _ a1 a2 a3 a4 (F := fun _ => _) (fun _ => rfl)
    · first
        | (refine wpAny_bind ?_; refine wp_if_neg hpl ?_; refine wpAny_pure ?_)
        | refine wp_if_neg hpl (wpAny_bind (wpAny_pure ?_))
      obtain ⟨a1, a2, a3, a4⟩ := plain2 true
      exact rest _ a1 a2 a3 a4 (F := fun _ => _) (fun _ => rfl)
end
end Kb

set_option Elab.async false
set_option linter.all false
set_option maxRecDepth 100000
set_option maxHeartbeats 8000000
/-! set(..) and sorted(..) of tuples of texts, as rules of the layer. -/
namespace Kb
open PySem PySem.Spec PyProof.Rows L2
open PySem.W (EachIs)
theorem perm_map {α β : Type} {f : α → β} {vs ws : List β} (h : vs.Perm ws) : ∀ L : List α, ws = L.map f → ∃ bs : List α, bs.Perm L ∧ vs = bs.map f := by
  induction h with
  | nil =>
    intro L e
    have : L = [] := by simpa using e.symm
    exact ⟨[], by rw [this], rfl⟩
  | cons x _ ih =>
    intro L e
    cases L with
    | nil => cases e
    | cons a L =>
      simp only [List.map_cons, List.cons.injEq] at e
      obtain ⟨bs, h1, h2⟩ := ih L e.2
      exact ⟨a :: bs, h1.cons a, by rw [h2, e.1]; rfl⟩
  | swap x y l =>
    intro L e
    match L, e with
    | a :: b :: L, e =>
      simp only [List.map_cons, List.cons.injEq] at e
      exact ⟨b :: a :: L, List.Perm.swap .., by simp [e.1, e.2.1, e.2.2]⟩
  | trans _ _ ih1 ih2 =>
    intro L e
    obtain ⟨bs, h1, h2⟩ := ih2 L e
    obtain ⟨cs, h3, h4⟩ := ih1 bs h2
    exact ⟨cs, h3.trans h1, h4⟩
theorem alike_strs : ∀ xs ys : List Str, PySem.W.alikeAll (xs.map .str) (ys.map .str) = true
  | [], _ => by simp [PySem.W.alikeAll]
  | _ :: _, [] => by simp [PySem.W.alikeAll]
  | x :: xs, y :: ys => by
    show PySem.W.alikeAll (.str x :: xs.map .str) (.str y :: ys.map .str) = true
    rw [PySem.W.alikeAll, alike_strs xs ys]
    simp [PySem.W.alike]
theorem depth_strs : ∀ xs : List Str, PyData.depthAll (xs.map .str) = 0
  | [] => by simp [PyData.depthAll]
  | x :: xs => by
    show PyData.depthAll (.str x :: xs.map .str) = 0
    rw [PyData.depthAll, depth_strs xs]
    simp [PyData.depth]
section
variable {P : Program} {w : World} {A : Around} {E : Value → Shared → Prop} {s : Shared}
theorem reads_strs {h : Heap} : ∀ {k : List Str} {vs : List Value}, ItemsAre (strKind P w) k vs → ReadsAll h vs (k.map .str) []
  | [], _, .nil => .nil
  | x :: k, _, .cons h1 t => by
    obtain ⟨u, rfl⟩ := Value.isStrOf_shape h1
    have r := ReadsAll.cons (Reads.str (h := h) x u) (reads_strs t)
    exact r
theorem reads_tup {h : Heap} {p : Addr × List Str} (x : IsU P w h p) : Reads h (.ref p.1) (.tuple (p.2.map .str)) [] := by
  obtain ⟨o, items, n, ho, hc, hd, hi⟩ := x
  exact .tuple ho hc hd (reads_strs hi)
theorem refs_each {L : List (Addr × List Str)} : ∀ bs : List (Addr × List Str), (∀ b ∈ bs, b ∈ L) → EachIs (fun v (b : Addr × List Str) => v = Value.ref b.1 ∧ b ∈ L) (bs.map fun p => Value.ref p.1) bs
  | [], _ => .nil
  | b :: bs, h => .cons ⟨rfl, h b List.mem_cons_self⟩ (refs_each bs fun c hc => h c (List.mem_cons_of_mem _ hc))
theorem each_refs {L : List (Addr × List Str)} : ∀ {vs : List Value} {bs : List (Addr × List Str)}, EachIs (fun v (b : Addr × List Str) => v = Value.ref b.1 ∧ b ∈ L) vs bs → vs = bs.map fun p => Value.ref p.1
  | _, _, .nil => rfl
  | _, _, .cons h t => by rw [List.map_cons, ← each_refs t, h.1]
theorem sortable_U {L : List (Addr × List Str)} (ne : ∀ p ∈ L, p.2 ≠ []) {bs : List (Addr × List Str)} (mem : ∀ b ∈ bs, b ∈ L) : PySem.W.Sortable (bs.map fun b : Addr × List Str => PyData.tuple (b.2.map .str)) := .inl fun d hd => by
  obtain ⟨b, hb, rfl⟩ := List.mem_map.mp hd
  have z := ne b (mem b hb)
  obtain ⟨b1, b2⟩ := b
  cases b2 with
  | nil => exact absurd rfl z
  | cons x xs => exact ⟨.str x, xs.map .str, rfl⟩
/-- sorted of the set -/
theorem sorted_setU {S : Addr} {L : List (Addr × List Str)} {es : Array (Int × Value)} {ep : Nat} {t : SetTable} {Q : Value → Shared → Prop} (R : SetU P w S L es ep t s.heap) (tup : ∀ p ∈ L, IsU P w s.heap p) (ne : ∀ p ∈ L, p.2 ≠ []) (hh : A.handled = none) (hu : A.units + 8 < cLine)
    (hQ : ∀ s' p (out : Array Value) (c : Nat) (L' : List (Addr × List Str)), (∀ b o, s.heap.get? b = some o → s'.heap.get? b = some o) → s'.gens = s.gens → s'.os = s.os → s.heap.objs.size ≤ p →
      s'.heap.get? p = some (seqObj "list" out c) → out.toList = L'.map (fun p => Value.ref p.1) → L'.Perm L → Q (.ref p) s') :
    wpAny (model P w) A (call (.builtin "sorted") [.ref S]) Q E s := by
  obtain ⟨o, ho, hex, hd⟩ := R.ob
  have sz := R.size
  have few := R.few
  refine Calls.call_function_entry kind_sorted plain_sorted entry_sorted (args_sorted1 _) ?_
  unfold Builtin.«sorted»
  refine wpAny_bind (m := checkCount "sorted" 1 1 _) (wpAny_pure ?_)
  refine wpAny_bind (collect_set (A := A.in1) hh ⟨_, ho, hex.1, hd⟩ R.fits (by rw [sz]; unfold scanBound; omega) R.tab.ris R.led fun s1 vs k1 hz g1 o1 pm => ?_)
  rw [R.rows, List.map_map] at pm
  obtain ⟨bs, pb, eb⟩ := perm_map (f := fun p : Addr × List Str => Value.ref p.1) pm L rfl
  have hbl : bs.length = L.length := pb.length_eq
  have hsz : bs.length ≤ sizeLine := by rw [hbl, sizeLine_eq]; omega
  refine wpAny_bind (wpAny_newList ?_ (by rw [eb, List.length_map]; exact hsz))
  have hoL : (s1.heap.push (seqObj "list" vs.toArray 0)).get? s1.heap.objs.size = some (seqObj "list" vs.toArray 0) := Heap.get?_push_size _ rfl
  have each : EachIs (fun v (b : Addr × List Str) => v = Value.ref b.1 ∧ b ∈ L) vs bs := by rw [eb]; exact refs_each bs fun b hb => pb.mem_iff.mp hb
  refine wpAny_bind (wpAny_holding (PySem.W.list_sort_data (s := { s1 with heap := s1.heap.push (seqObj "list" vs.toArray 0) }) (enc := fun b : Addr × List Str => PyData.tuple (b.2.map .str)) hoL each
    (each.mono fun v b ⟨e, hb⟩ => ⟨[], ⟨by rw [e]; exact reads_tup ((tup b hb).keep fun o q => Heap.get?_push_of_some _ (k1 _ o q)), by simp⟩⟩)
    (PySem.W.AllAlike.of fun b b' => by simp only [PySem.W.alike]; exact alike_strs _ _) (sortable_U ne fun b hb => pb.mem_iff.mp hb) hsz (fun b _ => by show A.units + 1 + 1 + PyData.depth (.tuple _) < cLine; simp only [PyData.depth, depth_strs]; omega) fun out hlen ho2 => ?_))
  obtain ⟨c, hc⟩ := sortedHeap_at (vs := vs) (out := out.toArray) hoL
  obtain ⟨zs, z1, z2⟩ : ∃ zs : List (Addr × List Str), zs.Perm bs ∧ out = zs.map (fun p : Addr × List Str => Value.ref p.1) := ⟨_, List.mergeSort_perm _ _, each_refs ho2⟩
  refine wpAny_pure ⟨_, rfl, hQ _ s1.heap.objs.size out.toArray c zs (fun b u e => ?_) g1 o1 hz hc z2 (z1.trans pb)⟩
  have q := k1 b u e
  have hlt := Heap.lt_size q
  show (sortedHeap (s1.heap.push (seqObj "list" vs.toArray 0)) s1.heap.objs.size vs out.toArray).get? b = some u
  rw [sortedHeap_old (Nat.ne_of_lt hlt) (by rw [size_push']; exact Nat.lt_succ_of_lt hlt)]
  exact Heap.get?_push_of_some _ q
/-- what the set holds of the first i -/
def RelU (P : Program) (w : World) (S : Addr) (ks : List (Addr × List Str)) (i : Nat) (h : Heap) : Prop := (∀ p ∈ ks, p.1 < S ∧ IsU P w h p) ∧ ∃ L es ep t, SetU P w S L es ep t h ∧ (∀ p ∈ L, p ∈ ks) ∧ ∀ y, y ∈ L.map (·.2) ↔ y ∈ (ks.take i).map (·.2)
theorem relU_add {S : Addr} {ks : List (Addr × List Str)} {D : List (List Str)} (hD : D.length ≤ 4) (hk : ∀ p ∈ ks, p.2 ∈ D) (un : A.units + 1 < cLine) : AddR P w A S ks.length (fun i v => ∃ p, ks[i]? = some p ∧ v = .ref p.1) (RelU P w S ks) := by
  rintro i v s Q E hi ⟨⟨x, k⟩, hp, rfl⟩ ⟨tup, L, es, ep, t, R, sub, mem⟩ h
  have hpm := List.mem_of_getElem? hp
  refine addU R (fun p q => (tup p (sub p q)).2) (tup _ hpm).2 un (fun hn => ?_) fun b h' L' es' ep' t' tk htk sb R' c => h b h' tk htk sb ⟨fun p q => ⟨(tup p q).1, ?_⟩, L', es', ep', t', R', ?_⟩
  · have z : (k :: L.map (·.2)).length ≤ D.length := nodup_len (List.nodup_cons.mpr ⟨hn, R.nd⟩) fun y hy => by
      rcases List.mem_cons.mp hy with e | hy
      · rw [e]; exact hk _ hpm
      · obtain ⟨q, hq, rfl⟩ := List.mem_map.mp hy
        exact hk q (sub q hq)
    rw [List.length_cons, List.length_map] at z
    omega
  · have q1 := (tup p q)
    exact q1.2.keep fun o e => by rw [sb.2 p.1 (Nat.ne_of_lt q1.1)]; exact e
  · rw [take_some hp, List.map_append]
    rcases c with ⟨hm, rfl⟩ | ⟨hm, pm⟩
    · refine ⟨sub, fun y => ⟨fun z => List.mem_append_left _ ((mem y).mp z), fun z => ?_⟩⟩
      rcases List.mem_append.mp z with z | z
      · exact (mem y).mpr z
      · rw [show y = k by simpa using z]; exact hm
    · refine ⟨fun p q => ?_, fun y => ?_⟩
      · rcases List.mem_cons.mp (pm.mem_iff.mp q) with e | q
        · rw [e]; exact hpm
        · exact sub p q
      · rw [(pm.map (·.2)).mem_iff, List.map_cons, List.mem_cons, mem, List.mem_append]
        constructor
        · rintro (e | e)
          · exact .inr (by rw [e]; exact List.mem_cons_self)
          · exact .inl e
        · rintro (e | e)
          · exact .inr e
          · exact .inl (by simpa using e)
theorem SetU.fresh {h : Heap} {S : Addr} (e : h.get? S = some (set0 w)) : SetU P w S [] #[] 0 (.fresh 0 0 (!w.params.followText "set-order")) h where
  ob := ⟨_, e, ⟨rfl, rfl, rfl⟩, rfl⟩
  rows := rfl
  tab := ⟨List.Pairwise.nil, rfl, rfl, .inl rfl, (fun x hx => absurd (show x ∈ ([] : List Nat) from hx) (by simp)), (fun i h j e _ => by simp at e)⟩
  nd := List.nodup_nil
  led := by
    show _ ∨ (!w.params.followText "set-order") = true
    cases w.params.followText "set-order"
    · exact .inr rfl
    · exact .inl rfl
  m7 := rfl
  few := Nat.zero_le _
end
def SetUO (P : Program) (w : World) (a : Addr) (L : List (Addr × List Str)) : HO := .ext fun h => ∃ es ep t, SetU P w a L es ep t h
theorem setUO_new {P : Program} {w : World} {H : Hp} {h : Heap} {a : Addr} {L : List (Addr × List Str)} (R : ∃ es ep t, SetU P w a L es ep t h) : ObjOk P w H h a (SetUO P w a L) := by
  refine ⟨R, ?_, fun h1 h2 p k => ?_⟩
  · obtain ⟨es, ep, t, R⟩ := R
    obtain ⟨o, ho, _⟩ := R.ob
    exact ⟨o, ho⟩
  · obtain ⟨es, ep, t, R⟩ := p
    obtain ⟨o, ho, r⟩ := R.ob
    exact ⟨es, ep, t, ⟨o, k o ho, r⟩, R.rows, R.tab, R.nd, R.led, R.m7, R.few⟩
theorem strs_items {P : Program} {w : World} : ∀ {k : List Str} {us : List Value}, Vals (k.map V.str) us → ItemsAre (strKind P w) k us
  | [], _, .nil => .nil
  | x :: k, _, .cons r t => by
    obtain ⟨u, rfl⟩ := r
    exact .cons (PySem.Froz.is_str x u) (strs_items t)
theorem refs_vals : ∀ {ks : List (Addr × List Str)} {us : List Value}, Vals (ks.map fun p => V.ref p.1) us → us = ks.map fun p => Value.ref p.1
  | [], _, .nil => rfl
  | p :: ks, _, .cons r t => by cases r; rw [refs_vals t]; rfl
theorem vals_refs : ∀ ks : List (Addr × List Str), Vals (ks.map fun p => V.ref p.1) (ks.map fun p => Value.ref p.1)
  | [] => .nil
  | p :: ks => .cons rfl (vals_refs ks)
section
variable {X : Cx}
theorem Inv.isU {pins : List (Addr × Obj)} {σ : L2.St} {H : Hp} {s : Shared} {p : Addr × List Str} (I : Inv X pins σ H s) (h : SqT X.K H p.1 (p.2.map V.str)) : IsU X.prog X.w s.heap p := by
  obtain ⟨its, r, ⟨o, ho, hc, n, hd⟩, _⟩ := I.tuple h
  exact ⟨o, its.toArray, n, ho, hc, hd, by simpa using strs_items r⟩
def rSetU (K : PySem.W.Frag) (P : Program) (w : World) : List V → Hp → VK → Prop := fun xs H Q => ∃ (q : Addr) (ks : List (Addr × List Str)) (D : List (List Str)), xs = [V.ref q] ∧ SqL K H q (ks.map fun p => V.ref p.1) ∧ (∀ p ∈ ks, SqT K H p.1 (p.2.map V.str)) ∧ D.length ≤ 4 ∧ (∀ p ∈ ks, p.2 ∈ D) ∧
  ∀ a L, H a = none → (L.map (·.2)).Nodup → (∀ p ∈ L, p ∈ ks) → (∀ y, y ∈ L.map (·.2) ↔ y ∈ ks.map (·.2)) → Q (.ref a) (upd H a (SetUO P w a L))
theorem cr_setU (hc : X.calm = true) (hu : X.A.units + 64 < cLine) : CallR X (.type "set") (rSetU X.K X.prog X.w) := by
  intro pins s σ H xs us Q I r h
  obtain ⟨a, ks, D, rfl, hl, hk, hD, hkD, q⟩ := h
  rw [Vals.ref1 r]
  have hn : H s.heap.objs.size = none := I.hok.fresh (Nat.le_refl _)
  obtain ⟨its, rv, pl, hz⟩ := I.list hl
  have hs : its.toArray.size = ks.length := by rw [List.size_toArray, ← rv.length, List.length_map]
  have tup0 : ∀ p ∈ ks, p.1 < s.heap.objs.size ∧ IsU X.prog X.w s.heap p := fun p hp => by
    have z := Inv.isU I (hk p hp)
    obtain ⟨o, _, _, ho, _⟩ := id z
    exact ⟨Heap.lt_size ho, z⟩
  refine call_set_list (I.ok.hd hc) pl.isList (RelU X.prog X.w s.heap.objs.size ks) (fun i h h' hr k => ?_) (fun h' e k => ⟨fun p hp => ⟨(tup0 p hp).1, (tup0 p hp).2.keep fun o => k _ o⟩, [], _, _, _, SetU.fresh e, fun p hp => (by cases hp), fun y => by simp⟩) (fun A' hA => ?_) fun h' tk hr k => ?_
  · obtain ⟨tup, L, es, ep, t, R, sub, mem⟩ := hr
    obtain ⟨o, ho, r⟩ := R.ob
    exact ⟨fun p hp => ⟨(tup p hp).1, (tup p hp).2.keep fun o e => k _ o (Nat.ne_of_lt (Nat.lt_succ_of_lt (tup p hp).1)) e⟩, L, es, ep, t, ⟨⟨o, k _ o (Nat.ne_of_lt (Nat.lt_succ_self _)) ho, r⟩, R.rows, R.tab, R.nd, R.led, R.m7, R.few⟩, sub, mem⟩
  · rw [hs]
    intro i v s' Q' E' hi hv hrel hq
    refine relU_add hD hkD (by omega) i v s' Q' E' hi ?_ hrel hq
    have e := refs_vals rv
    rw [e] at hv
    obtain ⟨p, hp⟩ : ∃ p, ks[i]? = some p := ⟨_, List.getElem?_eq_getElem hi⟩
    refine ⟨p, hp, ?_⟩
    have hv2 : (ks.map fun p => Value.ref p.1)[i]? = some v := by simpa using hv
    rw [List.getElem?_map, hp] at hv2
    exact (Option.some.inj hv2).symm
  · rw [hs] at hr
    obtain ⟨tup, L, es, ep, t, R, sub, mem⟩ := hr
    exact ⟨.ref s.heap.objs.size, _, I.laid (t' := tk) k (Nat.le_refl _) (setUO_new ⟨es, ep, t, R⟩), rfl, q _ L hn R.nd sub fun y => by rw [mem, List.take_length]⟩
def rSortedU (K : PySem.W.Frag) (P : Program) (w : World) : List V → Hp → VK → Prop := fun vs H Q => ∃ (a : Addr) (L : List (Addr × List Str)), vs = [V.ref a] ∧ H a = some (SetUO P w a L) ∧ (∀ p ∈ L, SqT K H p.1 (p.2.map V.str) ∧ p.2 ≠ []) ∧
  ∀ (L' : List (Addr × List Str)) (p : Addr), L'.Perm L → H p = none → Q (.ref p) (upd H p (.lst (L'.map fun q => V.ref q.1)))
theorem cr_sortedU (hc : X.calm = true) (hu : X.A.units + 64 < cLine) : CallR X (.builtin "sorted") (rSortedU X.K X.prog X.w) := by
  intro pins s σ H vs us Q I r h
  obtain ⟨a, L, rfl, ha, hk, q⟩ := h
  obtain ⟨es, ep, t, R⟩ : ∃ es ep t, SetU X.prog X.w a L es ep t s.heap := (I.hok a _ ha).1
  rw [Vals.ref1 r]
  refine sorted_setU R (fun p hp => Inv.isU I (hk p hp).1) (fun p hp => (hk p hp).2) (I.ok.hd hc) (by omega) fun s' p out c L' k g o hp hg hv pm => ?_
  have hlen : (L'.map fun q => V.ref q.1).length ≤ sizeLine := by have := R.few; rw [List.length_map, pm.length_eq, sizeLine_eq]; omega
  exact ⟨.ref p, _, inv_list I k g o hp hg (by rw [hv]; exact vals_refs L') hlen, rfl, q L' p pm (I.hok.fresh hp)⟩
/-- sorted(xs), xs a list of tuples of texts: some order -/
def rSortU (K : PySem.W.Frag) : List V → Hp → VK → Prop := fun vs H Q => ∃ (a : Addr) (L : List (Addr × List Str)), vs = [V.ref a] ∧ SqL K H a (L.map fun q => V.ref q.1) ∧ L.length ≤ 1000 ∧ (∀ p ∈ L, SqT K H p.1 (p.2.map V.str) ∧ p.2 ≠ []) ∧
  ∀ (L' : List (Addr × List Str)) (p : Addr), L'.Perm L → H p = none → Q (.ref p) (upd H p (.lst (L'.map fun q => V.ref q.1)))
theorem cr_sortU (hu : X.A.units + 64 < cLine) : CallR X (.builtin "sorted") (rSortU X.K) := by
  intro pins s σ H vs us Q I r h
  obtain ⟨a, L, rfl, ha, hlen, hk, q⟩ := h
  obtain ⟨its, rv, hl, hz⟩ := I.list ha
  rw [Vals.ref1 r]
  have eits := refs_vals rv
  have each : EachIs (fun v (b : Addr × List Str) => v = Value.ref b.1 ∧ b ∈ L) its L := by rw [eits]; exact refs_each L fun b hb => hb
  refine PySem.W.sorted_data (enc := fun b : Addr × List Str => PyData.tuple (b.2.map .str)) hl.isList each (each.mono fun v b ⟨e, hb⟩ => ⟨[], by rw [e]; exact reads_tup (Inv.isU I (hk b hb).1)⟩)
    (PySem.W.AllAlike.of fun b b' => by simp only [PySem.W.alike]; exact alike_strs _ _) (sortable_U (fun p hp => (hk p hp).2) fun b hb => hb) (by rw [sizeLine_eq]; omega) (fun b _ => by simp only [PyData.depth, depth_strs]; omega) fun out hlen2 ho2 => ?_
  obtain ⟨zs, z1, z2⟩ : ∃ zs : List (Addr × List Str), zs.Perm L ∧ out = zs.map (fun p : Addr × List Str => Value.ref p.1) := ⟨_, List.mergeSort_perm _ _, each_refs ho2⟩
  obtain ⟨ep, he'⟩ := PyProof.Rows.sortedAll_at s.heap its out.toArray
  have hz2 : (zs.map fun q => V.ref q.1).length ≤ sizeLine := by rw [List.length_map, z1.length_eq, sizeLine_eq]; omega
  exact ⟨.ref _, upd H (s.heap.objs.size + 1) (.lst (zs.map fun q => V.ref q.1)), I.laid (t' := s.toks) (fun _ _ => PyProof.Rows.sortedAll_old) (Nat.le_succ _) ⟨hz2, out, ep, by rw [z2]; exact vals_refs zs, he'⟩, rfl, q zs _ z1 (I.hok.fresh (Nat.le_succ _))⟩
end
end Kb

set_option Elab.async false
set_option linter.all false
set_option maxRecDepth 100000
set_option maxHeartbeats 4000000
/-! Calls that the layer has no word for: a class with a star's __init__, its own +, a property by its body. -/
namespace Kb
open PySem PySem.Spec PyProof.Rows L2 Evl
/-- a class whose __init__ takes what it is given -/
structure SMk (P : Program) (w : World) (K : PySem.W.Frag) (mg : Str → Option Value) (base : Heap) (k : Nat) (x : Str) (C : Addr) (sp : Sp) : Prop where
  ex : ∃ f, Mk K C f ∧ FnR P w K mg base C8.CX0 k f sp ∧ mg x = some (.ref C)
section
variable {X : Cx} {k j : Nat} {C : Addr} {x : Str} {sp : Sp} {p pos p2 : Pos} {e : Expr} {es : List Expr} {te : TE} {t : TA}
theorem pe_sm1 (c : SMk X.prog X.w X.K X.mg X.base k x C sp) (hr : Room j X.A) (hk : k + 1 ≤ j) (hg : Gl X x) (ha : PA X (e :: es) t) (hdb : (x == ("__debug__" : Str)) = false := by decide)
    (he : starEach (e :: es) X.env = (false, eval e X.env) :: starEach es X.env := by rfl) (hpl : (backTo pos (starEach es X.env)).any (·.1) = false := by rfl) : PE X (.Call (.Name x p) (e :: es) [] pos) (StX.tMakeR C sp C8.E0 t) := by
  obtain ⟨f, M, F, hm⟩ := c.ex
  exact StX.pe_makeR M F (hr.mono hk) hg hm C8.pass0 ha hdb he hpl
theorem pe_sm0 (c : SMk X.prog X.w X.K X.mg X.base k x C sp) (hr : Room j X.A) (hk : k + 1 ≤ j) (hg : Gl X x) (hdb : (x == ("__debug__" : Str)) = false := by decide) : PE X (.Call (.Name x p) [] [] pos) (StX.tMakeR C sp C8.E0 tNil) := by
  obtain ⟨f, M, F, hm⟩ := c.ex
  refine ⟨fun pins s σ H Q I h => ?_⟩
  refine wpAny_Call_Name_kw (ld_glob I hg hm ?_ hdb)
  exact PySem.W.callWith_K0 I.kIn M.kp (StX.run_makeR (us := []) (vs := []) M F (hr.mono hk) C8.pass0 I .nil h)
theorem pe_smS (c : SMk X.prog X.w X.K X.mg X.base k x C sp) (hr : Room j X.A) (hk : k + 1 ≤ j) (hg : Gl X x) (he : PE X e te) (hdb : (x == ("__debug__" : Str)) = false := by decide)
    (hst : starEach [.Starred e p2] X.env = [(true, eval e X.env)] := by rfl) :
    PE X (.Call (.Name x p) [.Starred e p2] [] pos) (fun σ H Q => te σ H fun y H1 => ∃ a xs, y = V.ref a ∧ (SqT X.K H1 a xs ∨ SqL X.K H1 a xs) ∧ ∀ x dx, H1 x = none → H1 dx = none → dx ≠ x →
      sp (V.ref x :: xs) (upd (upd H1 dx (.own x)) x (.ins C dx [])) (fun v H2 => v = .non ∧ Q (.ref x) H2) C8.E0) := by
  obtain ⟨f, M, F, hm⟩ := c.ex
  refine ⟨fun pins s σ H Q I h => ?_⟩
  refine wpAny_Call_Name_kw (ld_glob I hg hm ?_ hdb)
  refine PySem.W.callWith_S (h₀ := X.base) I.ok.mod.kin M.kp (thn (he.run pins s σ H _ I h) fun v s1 ⟨y, H1, I1, ry, a, xs, ey, hxs, q⟩ => ?_) hst
  subst ey
  obtain rfl : v = Value.ref a := ry
  exact StX.star_any I1 hxs fun us s2 I2 rv => ⟨I2.kIn, StX.run_makeR M F (hr.mono hk) C8.pass0 I2 rv q⟩
/-- its own + -/
theorem cmpBack_of {Q : VK} {pins : List (Addr × Obj)} {σ : L2.St} {u : Value} {s : Shared} (h : EP X pins σ Q u s) : PySem.W.CmpBack (EP X pins σ Q) u s := by
  have h2 := h
  obtain ⟨v, H', I, r, q⟩ := h
  cases u with
  | notImplemented =>
    exfalso
    cases v with
    | non => exact nomatch (show Value.notImplemented = Value.none from r)
    | bl b => exact nomatch (show Value.notImplemented = Value.bool b from r)
    | int i => obtain ⟨t, r⟩ := r; exact nomatch r
    | str i => obtain ⟨t, r⟩ := r; exact nomatch r
    | byt i => obtain ⟨t, r⟩ := r; exact nomatch r
    | flt i => obtain ⟨t, r⟩ := r; exact nomatch r
    | ref a => exact nomatch (show Value.notImplemented = Value.ref a from r)
    | ty a => exact nomatch (show Value.notImplemented = Value.type a from r)
  | _ => exact h2
theorem op_ownAdd (c : C8.Met X.prog X.w X.K X.mg X.base k C "__add__" sp []) (hr : Room (j + 1) X.A) (hk : k ≤ j) (first : PySem.W.selfFirst X.K C = true) :
    OpR X (binaryOp .Add) (fun x y H Q => ∃ a b dx fs dx2 fs2, x = .ref a ∧ y = .ref b ∧ H a = some (.ins C dx fs) ∧ H b = some (.ins C dx2 fs2) ∧ sp [.ref a, .ref b] H Q C8.E0) := by
  intro pins s σ H x y v u Q I rx ry h
  obtain ⟨a, b, dx, fs, dx2, fs2, rfl, rfl, ha, hb, q⟩ := h
  obtain rfl : v = Value.ref a := rx
  obtain rfl : u = Value.ref b := ry
  obtain ⟨f, fd, ps, ds, hc, hm, F, bi, d⟩ := c.ex
  obtain ⟨m, Fr⟩ := I.fr
  obtain ⟨mA, O, _⟩ := ins_get I.hok ha
  obtain ⟨od, J, _⟩ := O.look
  obtain ⟨mB, O2, _⟩ := ins_get I.hok hb
  obtain ⟨od2, J2, _⟩ := O2.look
  cases d
  refine PySem.W.binop_K Fr I.ok.mod.kin J J2.type first hm.at_ hm.fn ?_
  exact thn (run_fn (us := [.ref a, .ref b]) (vs := [.ref a, .ref b]) F (hr.mono (by omega)) bi .nil C8.pass0 I (.cons rfl (.cons rfl .nil)) q) fun u s' e => cmpBack_of e
end
/-- a property of an own class -/
structure Prp (P : Program) (w : World) (K : PySem.W.Frag) (mg : Str → Option Value) (base : Heap) (k : Nat) (C : Addr) (m : Str) (sp : Sp) : Prop where
  ex : ∃ (p g : Addr) (fd : FuncData) (ps : List Str), Cls K C ∧ PropOf K C m p g ∧ FnOk P w K mg base C8.CX0 k g fd ps sp ∧ Binds K fd ps []
section
variable {P : Program} {w : World} {K : PySem.W.Frag} {mg : Str → Option Value} {base : Heap}
theorem prp_of {C : Addr} {m qual : Str} {st : Stmt} {N : List Str} {k : Nat} {sp : Sp} (c : Cls K C) (D : PrpB K C m qual st) (S : FnScope N ["self"] (C8.fnScope st)) (len : ∀ vs H Q E, sp vs H Q E → vs.length = 1)
    (hbody : ∀ (f : Addr) (cdv : Value) (A : Around) (outer : List Env) (s : Shared) (H : Hp) (vs : List V) (Q : VK) (E : XK), Room k (A.deeper (envOfC qual (C8.fnScope st) s.heap.objs.size f cdv)) → sp vs H Q E →
      ∃ t, PSs (cxOf C8.CX0 P w K mg base N qual (C8.fnScope st) f cdv A outer s H E).nox (C8.fnBody st) t ∧ t { nx := fun _ H' => Q .non H', rt := Q } (start N vs) H) : Prp P w K mg base (k + 1) C m sp := by
  obtain ⟨p, f, fd, hp, F, b⟩ := D
  exact ⟨p, f, fd, _, c, hp, C8.fn0 F S len (hbody f), b⟩
end
theorem pe_pr {X : Cx} {k j : Nat} {C : Addr} {m : Str} {sp : Sp} {e : Expr} {te : TE} {pos : Pos} (c : Prp X.prog X.w X.K X.mg X.base k C m sp) (hr : Room j X.A) (hk : k + 1 ≤ j) (he : PE X e te) (hab : attributeBase e m X.env (eval e X.env) = eval e X.env := by rfl) :
    PE X (.Attribute e m pos) (tProp C sp [] C8.E0 te) := by
  obtain ⟨p, g, fd, ps, hc, hp, F, b⟩ := c.ex
  exact pe_prop he hc hp F (hr.mono hk) b .nil C8.pass0 hab
end Kb

set_option Elab.async false
set_option linter.all false
set_option maxRecDepth 100000
set_option maxHeartbeats 4000000
/-! Stacks in the heap; steps_of, firsts_of. -/
namespace Ka
def Tr.firsts : Tr → Int → List Int
  | .nil, _ => []
  | .rule _ _ r, s => s :: r.firsts (s + 1)
  | .stk i r, s => s :: r.firsts (s + (i.count : Int))
end Ka
namespace Kb
open PySem PySem.Spec PyProof.Rows L2 Evl
open Ka (Nm Res Mk Tr)
theorem ActOk_dec : True := trivial
/-- a stack's attributes -/
def sf (p st nm : Addr) (d : Int) : List (Str × V) := putF "depth" (.int d) (putF "names" (.ref nm) (putF "steps" (.ref st) (putF "parts" (.ref p) [])))
theorem sf_eq (p st nm : Addr) (d : Int) : sf p st nm d = ([("parts", .ref p), ("steps", .ref st), ("names", .ref nm), ("depth", .int d)] : List (Str × V)) := by
  have h1 : ¬ (("parts" : Str) = "steps") := by decide +kernel
  have h2 : ¬ (("parts" : Str) = "names") := by decide +kernel
  have h3 : ¬ (("steps" : Str) = "names") := by decide +kernel
  have h4 : ¬ (("parts" : Str) = "depth") := by decide +kernel
  have h5 : ¬ (("steps" : Str) = "depth") := by decide +kernel
  have h6 : ¬ (("names" : Str) = "depth") := by decide +kernel
  unfold sf
  simp only [putF, h1, h2, h3, h4, h5, h6, if_false]
theorem sf_len (p st nm : Addr) (d : Int) : (sf p st nm d).length = 4 := by rw [sf_eq]; rfl
theorem sf_steps (p st nm : Addr) (d : Int) (st' : Addr) : putF "steps" (.ref st') (sf p st nm d) = sf p st' nm d := by
  have h1 : ¬ (("parts" : Str) = "steps") := by decide +kernel
  rw [sf_eq, sf_eq]
  simp only [putF, h1, if_false, if_true]
theorem sf_names (p st nm : Addr) (d : Int) (nm' : Addr) : putF "names" (.ref nm') (sf p st nm d) = sf p st nm' d := by
  have h2 : ¬ (("parts" : Str) = "names") := by decide +kernel
  have h3 : ¬ (("steps" : Str) = "names") := by decide +kernel
  rw [sf_eq, sf_eq]
  simp only [putF, h2, h3, if_false, if_true]
theorem sf_depth (p st nm : Addr) (d : Int) (d' : Int) : putF "depth" (.int d') (sf p st nm d) = sf p st nm d' := by
  have h4 : ¬ (("parts" : Str) = "depth") := by decide +kernel
  have h5 : ¬ (("steps" : Str) = "depth") := by decide +kernel
  have h6 : ¬ (("names" : Str) = "depth") := by decide +kernel
  rw [sf_eq, sf_eq]
  simp only [putF, h4, h5, h6, if_false, if_true]
theorem lk_parts (p st nm : Addr) (d : Int) : (sf p st nm d).lookup ("parts" : Str) = some (.ref p) := by rw [sf_eq]; rfl
theorem lk_steps (p st nm : Addr) (d : Int) : (sf p st nm d).lookup ("steps" : Str) = some (.ref st) := by
  unfold sf; rw [lookup_putF, if_neg (by decide +kernel), lookup_putF, if_neg (by decide +kernel), lookup_putF, if_pos rfl]
theorem lk_names (p st nm : Addr) (d : Int) : (sf p st nm d).lookup ("names" : Str) = some (.ref nm) := by
  unfold sf; rw [lookup_putF, if_neg (by decide +kernel), lookup_putF, if_pos rfl]
theorem lk_depth (p st nm : Addr) (d : Int) : (sf p st nm d).lookup ("depth" : Str) = some (.int d) := by
  unfold sf; rw [lookup_putF, if_pos rfl]
theorem lk_no (p st nm : Addr) (d : Int) {m : Str} (h1 : ¬ m = "parts" := by decide +kernel) (h2 : ¬ m = "steps" := by decide +kernel) (h3 : ¬ m = "names" := by decide +kernel) (h4 : ¬ m = "depth" := by decide +kernel) : (sf p st nm d).lookup m = none := by
  unfold sf; rw [lookup_putF, if_neg h4, lookup_putF, if_neg h3, lookup_putF, if_neg h2, lookup_putF, if_neg h1]; rfl
/-- the rules' objects -/
def Steps (a : Ad) (H : Hp) : List (Nm × (Res → Ka.Act)) → List V → Prop
  | [], xs => xs = []
  | (n, c) :: l, xs => ∃ p ys, xs = .ref p :: ys ∧ RuleAt a.cRule H p n c ∧ (∀ r, ActOk (c r)) ∧ Steps a H l ys
theorem Steps.len {a : Ad} {H : Hp} : ∀ {l : List (Nm × (Res → Ka.Act))} {xs : List V}, Steps a H l xs → xs.length = l.length
  | [], _, h => by rw [h]; rfl
  | (n, c) :: l, _, ⟨p, ys, e, _, _, h⟩ => by rw [e, List.length_cons, List.length_cons, Steps.len h]
theorem Steps.mono {a : Ad} {H H' : Hp} (e : NL H H') : ∀ {l : List (Nm × (Res → Ka.Act))} {xs : List V}, Steps a H l xs → Steps a H' l xs
  | [], _, h => h
  | (n, c) :: l, _, ⟨p, ys, e1, h1, h2, h⟩ => ⟨p, ys, e1, h1.mono e, h2, Steps.mono e h⟩
theorem Steps.app {a : Ad} {H : Hp} : ∀ {l m : List (Nm × (Res → Ka.Act))} {xs ys : List V}, Steps a H l xs → Steps a H m ys → Steps a H (l ++ m) (xs ++ ys)
  | [], _, _, _, h, k => by rw [h]; exact k
  | (n, c) :: l, _, _, _, ⟨p, zs, e1, h1, h2, h⟩, k => ⟨p, zs ++ _, by rw [e1]; rfl, h1, h2, Steps.app h k⟩
theorem Steps.at {a : Ad} {H : Hp} : ∀ {l : List (Nm × (Res → Ka.Act))} {xs : List V} {i : Nat} {n : Nm} {c : Res → Ka.Act}, Steps a H l xs → l[i]? = some (n, c) → ∃ p, xs[i]? = some (.ref p) ∧ RuleAt a.cRule H p n c
  | _ :: _, _, 0, _, _, ⟨p, ys, e1, h1, h2, h⟩, e => by cases e; exact ⟨p, by rw [e1]; rfl, h1⟩
  | _ :: l, _, i + 1, _, _, ⟨p, ys, e1, h1, h2, h⟩, e => by
    obtain ⟨q, q1, q2⟩ := Steps.at h (i := i) (by simpa using e)
    exact ⟨q, by rw [e1]; simpa using q1, q2⟩
/-- a stack's object, E its entries' -/
def SBody (a : Ad) (H : Hp) (p : Addr) (t : Tr) (E : List V → Prop) : Prop := ∃ dx pa st nm ys rs, H p = some (.ins a.cStack dx (sf pa st nm t.depth)) ∧ H pa = some (.tup ys) ∧ E ys ∧ H st = some (.tup rs) ∧ Steps a H t.rules rs ∧ H nm = some (.tup (nms (Ka.names t)))
/-- the entries' objects -/
def Ents (a : Ad) (H : Hp) : Tr → List V → Prop
  | .nil, xs => xs = []
  | .rule n c r, xs => ∃ p ys, xs = .ref p :: ys ∧ RuleAt a.cRule H p n c ∧ (∀ r, ActOk (c r)) ∧ Ents a H r ys
  | .stk i r, xs => ∃ p ys, xs = .ref p :: ys ∧ SBody a H p i (Ents a H i) ∧ Ents a H r ys
def StackAt (a : Ad) (H : Hp) (p : Addr) (t : Tr) : Prop := SBody a H p t (Ents a H t)
theorem SBody.mono {a : Ad} {H H' : Hp} {p : Addr} {t : Tr} {E E' : List V → Prop} (e : NL H H') (k : ∀ xs, E xs → E' xs) (h : SBody a H p t E) : SBody a H' p t E' := by
  obtain ⟨dx, pa, st, nm, ys, rs, h1, h2, h3, h4, h5, h6⟩ := h
  exact ⟨dx, pa, st, nm, ys, rs, e _ _ h1 rfl, e _ _ h2 rfl, k _ h3, e _ _ h4 rfl, h5.mono e, e _ _ h6 rfl⟩
theorem Ents.mono {a : Ad} {H H' : Hp} (e : NL H H') : ∀ (t : Tr) (xs : List V), Ents a H t xs → Ents a H' t xs
  | .nil, _, h => h
  | .rule n c r, _, ⟨p, ys, e1, h1, h2, h3⟩ => ⟨p, ys, e1, h1.mono e, h2, Ents.mono e r _ h3⟩
  | .stk i r, _, ⟨p, ys, e1, h1, h2⟩ => ⟨p, ys, e1, h1.mono e (Ents.mono e i), Ents.mono e r _ h2⟩
theorem StackAt.mono {a : Ad} {H H' : Hp} {p : Addr} {t : Tr} (e : NL H H') (h : StackAt a H p t) : StackAt a H' p t := SBody.mono e (Ents.mono e t) h
theorem Ents.len {a : Ad} {H : Hp} : ∀ (t : Tr) (xs : List V), Ents a H t xs → xs.length = t.len
  | .nil, _, h => by rw [h]; rfl
  | .rule n c r, _, ⟨p, ys, e1, h1, h2, h3⟩ => by rw [e1, List.length_cons, Ents.len r ys h3]; rfl
  | .stk i r, _, ⟨p, ys, e1, h1, h2⟩ => by rw [e1, List.length_cons, Ents.len r ys h2]; rfl
theorem Ents.app {a : Ad} {H : Hp} : ∀ (t u : Tr) (xs ys : List V), Ents a H t xs → Ents a H u ys → Ents a H (t.app u) (xs ++ ys)
  | .nil, _, _, _, h, k => by rw [h]; exact k
  | .rule n c r, u, _, zs, ⟨p, ys, e1, h1, h2, h3⟩, k => ⟨p, ys ++ zs, by rw [e1]; rfl, h1, h2, Ents.app r u _ _ h3 k⟩
  | .stk i r, u, _, zs, ⟨p, ys, e1, h1, h2⟩, k => ⟨p, ys ++ zs, by rw [e1]; rfl, h1, Ents.app r u _ _ h2 k⟩
/-- one entry -/
inductive Ent (a : Ad) (H : Hp) : Tr → Addr → Prop where
  | rule {n : Nm} {c : Res → Ka.Act} {p : Addr} (h : RuleAt a.cRule H p n c) (k : ∀ r, ActOk (c r)) : Ent a H (.rule n c .nil) p
  | stk {i : Tr} {p : Addr} (h : StackAt a H p i) : Ent a H (.stk i .nil) p
theorem Ent.ents {a : Ad} {H : Hp} {t : Tr} {p : Addr} (h : Ent a H t p) : Ents a H t [.ref p] := by
  cases h with
  | rule h k => exact ⟨p, [], rfl, h, k, rfl⟩
  | stk h => exact ⟨p, [], rfl, h, rfl⟩
theorem Ent.mono {a : Ad} {H H' : Hp} {t : Tr} {p : Addr} (e : NL H H') (h : Ent a H t p) : Ent a H' t p := by
  cases h with
  | rule h k => exact .rule (h.mono e) k
  | stk h => exact .stk (h.mono e)
/-- the first entry and the others -/
theorem Ents.uncons {a : Ad} {H : Hp} {t : Tr} {x : V} {ys : List V} (h : Ents a H t (x :: ys)) : ∃ p e r, x = .ref p ∧ Ent a H e p ∧ t = e.app r ∧ Ents a H r ys := by
  cases t with
  | nil => cases h
  | rule n c r =>
    obtain ⟨p, zs, e1, h1, h2, h3⟩ := h
    cases e1
    exact ⟨p, _, r, rfl, .rule h1 h2, rfl, h3⟩
  | stk i r =>
    obtain ⟨p, zs, e1, h1, h2⟩ := h
    cases e1
    exact ⟨p, _, r, rfl, .stk h1, rfl, h2⟩
section
variable {K : PySem.W.Frag} {mg : Str → Option Value} {a : Ad}
/-- isinstance of the own classes -/
theorem ty_ins {C : Addr} {H : Hp} {p dx : Addr} {fs : List (Str × V)} (c : C8.InsC K C) (h : H p = some (.ins C dx fs)) : TyX K H (.ref p) (.ref C) := .base (.ins h c.cl c.ha c.hn c.htk c.hm)
theorem gcls {X : Cx} {x : Str} {C : Addr} {pos : Pos} (h : X.mg x = some (.ref C)) (hg : Gl X x := by rfl) (hd : (x == ("__debug__" : Str)) = false := by decide) : PE X (.Name x pos) (tC (.ref C)) := C8.pe_gc hg ⟨_, h, rfl⟩ hd
end
/-- steps_of: the rules' tuple -/
def spStepsOf (a : Ad) : Sp := fun vs H Q _ => ∃ (p : Addr) (e : Tr) (H0 : Hp), vs = [.ref p] ∧ Ex H0 H ∧ Ent a H0 e p ∧ ∀ q rs H', Ex H H' → H' q = some (.tup rs) → Steps a H0 e.rules rs → Q (.ref q) H'
section
variable {P : Program} {w : World} {K : PySem.W.Frag} {mg : Str → Option Value} {base : Heap} {a : Ad}
theorem ok_steps_of (T : Tx K mg a) : C8.Cal P w K mg base 1 "steps_of" (spStepsOf a) [] := by
  refine cal_of T.dStepsOf scStepsOf (fun vs H Q E h => ?_) (fun f cdv A outer s H vs Q E hr h => ?_)
  · obtain ⟨_, _, _, rfl, _⟩ := h; rfl
  · obtain ⟨p, e, H0, rfl, e0, he, k⟩ := h
    refine ⟨_, pss_one (ps_ret (pe_ifExp (pt_val (pe_callB call_isi (by rfl) T.b_isinstance PyProof.Rows.boot_isinstance (pa_cons (pv 0) (pa_cons (gcls T.gStack) pa_nil))))
      (pe_fld (pv 0) rfl) (pe_tup (pa_cons (pv 0) pa_nil)))), ?_⟩
    cases he with
    | rule h hk =>
      have h0 := h
      obtain ⟨dx, t, h1, _⟩ := h0
      refine ⟨_, rfl, _, _, _, _, false, rfl, .own _, ty_ins T.iRule (e0 _ _ h1), T.ruleNotStack, false, rfl, iteF ⟨_, rfl, by show 1 ≤ sizeLine; decide, fun q hq => ?_⟩⟩
      exact k q _ _ (Ex.new hq) upd_same ⟨p, [], rfl, h, hk, rfl⟩
    | stk h =>
      have h0 := h
      obtain ⟨dx, pa, st, nm, ys, rs, h1, h2, h3, h4, h5, h6⟩ := h0
      refine ⟨_, rfl, _, _, _, _, true, rfl, .own _, ty_ins T.iStack (e0 _ _ h1), T.iStack.me, true, rfl, iteT ⟨_, rfl, p, _, _, _, _, rfl, e0 _ _ h1, T.kStack, T.nStack_steps, lk_steps .., ?_⟩⟩
      refine k st rs H (Ex.refl H) (e0 _ _ h4) ?_
      show Steps a H0 (Tr.rules _ ++ []) rs
      rw [List.append_nil]
      exact h5
/-- firsts_of -/
def iV (l : List Int) : List V := l.map V.int
def spFirstsOf (a : Ad) : Sp := fun vs H Q _ => ∃ (p : Addr) (s : Int) (t : Tr), vs = [.ref p, .int s] ∧ StackAt a H p t ∧ t.len ≤ 100 ∧ ∀ q H', Ex H H' → H q = none → H' q = some (.lst (iV (t.firsts s))) → Q (.ref q) H'
theorem ok_firsts_of (T : Tx K mg a) : C8.Cal P w K mg base 2 "firsts_of" (spFirstsOf a) [] := by
  refine cal_of T.dFirstsOf scFirstsOf (fun vs H Q E h => ?_) (fun f cdv A outer s H vs Q E hr h => ?_)
  · obtain ⟨_, _, _, rfl, _⟩ := h; rfl
  · obtain ⟨p, s0, t, rfl, ht, hlen, k⟩ := h
    refine ⟨_, pss_cons (ps_set (i := 2) scFirstsOf.nd rfl (Or.inl rfl) (pe_lst pa_nil))
      (pss_cons (ps_for PassesOwn.never rfl (pi_tup (pe_fld (pv 0) rfl)) (pg_name (i := 3) scFirstsOf.nd rfl (Or.inl rfl))
        (pss_cons (ps_expr (pe_bm PySem.F.plainAttrs_list PySem.F.slot_list_append PySem.F.type_list_append mt_append (pv 2) (pa_cons (pv 1) pa_nil)))
          (pss_one (ps_aug (i := 1) scFirstsOf.nd rfl (Or.inl rfl) (pe_callB call_len_seq (by rfl) T.b_len PySem.boot_len (pa_cons (C8.pe_c (ok_steps_of T) hr (by decide) (by rfl) (pa_cons (pv 3) pa_nil)) pa_nil)) ip_add))))
      (pss_one (ps_ret (pv 2)))), ?_⟩
    have ht0 := ht
    obtain ⟨dx, pa, st, nm, ys, rs, h1, h2, h3, h4, h5, h6⟩ := ht0
    refine ⟨Nat.zero_le _, fun D hD => ?_⟩
    have e0 : Ex H (upd H D (.lst [])) := Ex.new hD
    refine ⟨_, rfl, p, _, _, _, _, rfl, e0 _ _ h1, T.kStack, T.nStack_parts, lk_parts .., pa, rfl, ⟨_, SqT.of (e0 _ _ h2)⟩, ?_⟩
    have hl := Ents.len t ys h3
    refine for_it walk_tup (fun i σ H' => ∃ v s' acc y, Ex H H' ∧ σ = [some (.ref p), some (.int s'), some (.ref D), y] ∧ H' D = some (.lst (iV acc)) ∧ acc.length = i ∧ Ents a H v (ys.drop i) ∧ acc ++ v.firsts s' = t.firsts s0) ⟨t, s0, [], none, e0, rfl, upd_same, rfl, h3, rfl⟩ (fun i σ H' _ ⟨_, _, _, _, e, _⟩ => ex_t e (SqT.of h2)) ?_ ?_
    · rintro i x σ _ H1 hi ⟨v, s', acc, y, e, rfl, hd, la, hv, hf⟩ ⟨rfl, hx⟩
      rw [List.drop_eq_getElem_cons hi] at hv
      have ex : ys[i] = x := by rw [List.getElem?_eq_getElem hi] at hx; exact Option.some.inj hx
      rw [ex] at hv
      obtain ⟨q, en, r, rfl, he, rfl, hr'⟩ := hv.uncons
      refine ⟨_, rfl, .inl ⟨rfl, _, SqL.of hd⟩, _, rfl, D, _, _, rfl, rfl, hd, by rw [iV, List.length_map, la]; exact sz_lt (by omega), ?_⟩
      have e1 : Ex H (upd H1 D (.lst (iV acc ++ [.int s']))) := e.mut hD
      refine ⟨_, rfl, _, rfl, q, en, H, rfl, e1, he, fun z zs H2 e2 hz hst => ?_⟩
      refine ⟨z, _, rfl, .inr (SqT.of hz), s', _, rfl, rfl, ?_⟩
      have e3 := e1.trans e2
      have hD2 := e2 D _ upd_same
      refine ⟨r, s' + (en.count : Int), acc ++ [s'], some (.ref q), e3, ?_, by rw [hD2, iV, iV, List.map_append]; rfl, by rw [List.length_append, la]; rfl, hr', ?_⟩
      · rw [Steps.len hst, Tr.rules_length]; rfl
      · rw [← hf, List.append_assoc]
        congr 1
        cases he with
        | rule _ _ => rfl
        | stk _ => simp only [Tr.app, Tr.firsts, Tr.count, Nat.add_zero]; rfl
    · rintro σ H' ⟨v, s', acc, y, e, rfl, hd, la, hv, hf⟩
      rw [List.drop_eq_nil_of_le (Nat.le_refl _)] at hv
      have hv' : v = .nil := by
        cases v with
        | nil => rfl
        | rule _ _ _ => obtain ⟨_, _, z, _⟩ := hv; cases z
        | stk _ _ => obtain ⟨_, _, z, _⟩ := hv; cases z
      subst hv'
      have ef : acc = t.firsts s0 := by rw [← hf]; simp [Tr.firsts]
      rw [ef] at hd
      exact ⟨_, rfl, k D H' e hD hd⟩
end
end Kb

set_option Elab.async false
set_option linter.all false
set_option maxRecDepth 100000
set_option maxHeartbeats 8000000
/-! Stack.__init__. -/
namespace Ka
theorem map_has (m : Nm) (t : Tr) : decide (m ∈ t.rules.map (·.1)) = t.has m := by
  rw [Bool.eq_iff_iff, decide_eq_true_eq]
  exact (Tr.has_iff m t).symm
end Ka
namespace Kb
open PySem PySem.Spec PyProof.Rows L2 Evl
open Ka (Nm Res Mk Tr)
theorem sel_rules (t : Tr) : sel (t.rules.map (·.1)) = Ka.names t := List.filter_congr fun m _ => Ka.map_has m t
theorem cat_step {K : PySem.W.Frag} {p q : Addr} {xs ys : List V} {H : Hp} {Q : VK} (h1 : H p = some (.tup xs)) (h2 : H q = some (.tup ys)) (hz : xs.length + ys.length ≤ 100000) (k : ∀ z H', Ex H H' → H' z = some (.tup (xs ++ ys)) → Q (.ref z) H') : rCatA K (.ref p) (.ref q) H Q := by
  refine ⟨p, q, xs, ys, rfl, rfl, SqT.of h1, SqT.of h2, sz_of hz, fun e => ?_, fun _ e => ?_, fun _ _ z hz => k z _ (Ex.new hz) upd_same⟩
  · exact k q H (Ex.refl H) (by rw [e]; exact h2)
  · exact k p H (Ex.refl H) (by rw [e, List.append_nil]; exact h1)
/-- __init__ at a new object; H0: the heap ahead of it -/
def spStk (a : Ad) : Sp := fun vs H Q _ => ∃ (x dx : Addr) (rest : List V) (t : Tr) (H0 : Hp), vs = .ref x :: rest ∧ H x = some (.ins a.cStack dx []) ∧ H0 x = none ∧ Ex H0 H ∧ Ents a H0 t rest ∧ t.count ≤ 12 ∧ t.len ≤ 12 ∧ t.depth ≤ 3 ∧
  ∀ H', Ex H0 H' → StackAt a H' x t → Q .non H'
def spStkI (a : Ad) : Sp := fun vs H Q _ => ∃ (x dx q : Addr) (xs : List V) (t : Tr) (H0 : Hp), vs = [.ref x, .ref q] ∧ H x = some (.ins a.cStack dx []) ∧ H q = some (.tup xs) ∧ H0 x = none ∧ Ex H0 H ∧ Ents a H0 t xs ∧ t.count ≤ 12 ∧ t.len ≤ 12 ∧ t.depth ≤ 3 ∧
  ∀ H', Ex H0 H' → StackAt a H' x t → Q .non H'
theorem asks_at {a : Ad} {H : Hp} {l : List (Nm × (Res → Ka.Act))} {xs : List V} (h : Steps a H l xs) {i : Nat} {v : V} (e : xs[i]? = some v) : ∃ p n c, v = .ref p ∧ RuleAt a.cRule H p n c ∧ (nms (l.map (·.1)))[i]? = some (.str (nmS n)) := by
  have hi : i < l.length := by rw [← h.len]; exact (List.getElem?_eq_some_iff.mp e).1
  obtain ⟨p, e1, e2⟩ := h.at (List.getElem?_eq_getElem hi)
  rw [e1] at e
  exact ⟨p, _, _, (Option.some.inj e).symm, e2, by rw [nms, List.map_map, List.getElem?_map, List.getElem?_eq_getElem hi]; rfl⟩
theorem list_ext {ys zs : List V} (hl : ys.length = zs.length) (h : ∀ (i : Nat) (y : V), ys[i]? = some y → zs[i]? = some y) : ys = zs := by
  apply List.ext_getElem? 
  intro i
  by_cases hi : i < ys.length
  · rw [List.getElem?_eq_getElem hi, h i _ (List.getElem?_eq_getElem hi)]
  · rw [List.getElem?_eq_none (by omega), List.getElem?_eq_none (by omega)]
section
variable {P : Program} {w : World} {K : PySem.W.Frag} {mg : Str → Option Value} {base : Heap} {a : Ad}
theorem dep_max (u e : Tr) : (u.app e).depth = max u.depth e.depth := Ka.Tr.depth_app u e
theorem stack_body (T : Tx K mg a) (f : Addr) (cdv : Value) (A : Around) (outer : List Env) (s : Shared) (H : Hp) (vs : List V) (Q : VK) (E : XK) (hr : Room 1 (A.deeper (envOfC "Stack.__init__" (C8.fnScope sStackInit) s.heap.objs.size f cdv))) (h : spStkI a vs H Q E) :
    ∃ t, PSs (cxOf C8.CX0 P w K mg base ["self", "entries", "index", "entry", "is_stack", "rule"] "Stack.__init__" (C8.fnScope sStackInit) f cdv A outer s H E).nox (C8.fnBody sStackInit) t ∧ t { nx := fun _ H' => Q .non H', rt := Q } (start ["self", "entries", "index", "entry", "is_stack", "rule"] vs) H := by
  obtain ⟨x, dx, q, xs, t, H0, rfl, hx, hq, h0x, e0, he, hc, hl, hd, k⟩ := h
  have nd := scStackInit.nd
  refine ⟨_, pss_cons (ps_fld (pv 0) (pv 1) rfl) (pss_cons (ps_fld (pv 0) (pe_tup pa_nil) rfl) (pss_cons (ps_fld (pv 0) (pe_tup pa_nil) rfl) (C8.pss_cut (ps_fld (pv 0) pe_int rfl)
    (pss_one (ps_for PassesOwn.never rfl (pi_enumT (by rfl) T.b_enumerate (pa_cons (pv 1) pa_nil)) (pg_tup rfl (pgs_cons (pg_name (i := 2) nd rfl (Or.inl rfl)) (pgs_cons (pg_name (i := 3) nd rfl (Or.inl rfl)) pgs_nil)))
      (pss_cons (ps_set (i := 4) nd rfl (Or.inl rfl) (pe_callB call_isi (by rfl) T.b_isinstance PyProof.Rows.boot_isinstance (pa_cons (pv 3) (pa_cons (gcls T.gStack) pa_nil))))
      (C8.pss_cut (ps_if (PW.pt (pw_or (pt_cmpR op_eq (pv 2) (pg T.vMOST_ENTRIES) (nomark _)) (pw_or1 (PW.pt (pw_and (pt_not (pt_val (pv 4))) (pw_and1 (pt_not (pt_val (pe_callB call_isi (by rfl) T.b_isinstance PyProof.Rows.boot_isinstance (pa_cons (pv 3) (pa_cons (gcls T.gRule) pa_nil))))))))))) pss_never pss_nil)
      (pss_cons (ps_fld (pv 0) (pe_op op_catA (pe_fld (pv 0) rfl) (C8.pe_c (ok_steps_of T) hr (by decide) (by rfl) (pa_cons (pv 3) pa_nil))) rfl)
      (pss_cons (ps_fld (pv 0) (pe_tupleOf (by rfl) T.b_tuple (pe_names rfl hr.units (by rfl) T.b_sorted (by rfl) T.b_set
          (pe_lc (own := [("rule", 5)]) (g := gName 5) (tt := tYes) (te := tFld K (tVar 5) "asks") rfl nd (pi_tup (pe_fld (pv 0) rfl)) (blkOk_by (N := ["self", "entries", "index", "entry", "is_stack", "rule"]) (sc := C8.fnScope sStackInit) (by decide +kernel)) (fun _ _ _ _ _ => pg_name (i := 5) nd rfl (Or.inl rfl)) (fun _ _ _ _ _ => pts_nil)
            (fun _ _ _ _ _ => pe_fld (pv 5) rfl)))) rfl)
      (C8.pss_cut (ps_fld (pv 0) (pe_callB (call_max2 rfl) (by rfl) T.b_max (by decide +kernel) (pa_cons (pe_fld (pv 0) rfl) (pa_cons (pe_ifExp (pt_val (pv 4)) (pe_op op_add (pe_fld (pv 3) rfl) pe_int) pe_int) pa_nil))) rfl)
      (pss_one (ps_if (PW.pt (pw_or (pt_cmpR op_gt (pe_fld (pv 0) rfl) (pg T.vMOST_DEPTH) (nomark _)) (pw_or (pt_cmpR op_gt (pe_callB call_len_seq (by rfl) T.b_len PySem.boot_len (pa_cons (pe_fld (pv 0) rfl) pa_nil)) (pg T.vMOST_RULES) (nomark _))
          (pw_or1 (pt_cmpR op_gt (pe_callB call_len_seq (by rfl) T.b_len PySem.boot_len (pa_cons (pe_fld (pv 0) rfl) pa_nil)) (pg T.vMOST_MODULES_stacks) (nomark _)))))) pss_never pss_nil)))))))))))), ?_⟩
  -- self.parts, self.steps, self.names, self.depth
  have nqx : q ≠ x := ne_of hq hx (by intro z; cases z)
  refine ⟨_, rfl, _, rfl, x, a.cStack, dx, [], rfl, hx, T.kStack, T.nStack_parts, (by decide), ?_⟩
  refine ⟨Nat.zero_le _, fun z0 hz0 => ⟨_, rfl, x, a.cStack, dx, _, rfl, by rw [upd_ne (ne_of_none upd_same hz0)]; exact upd_same, T.kStack, T.nStack_steps, (by show 1 < 1000; decide), ?_⟩⟩
  refine ⟨Nat.zero_le _, fun z1 hz1 => ⟨_, rfl, x, a.cStack, dx, _, rfl, by rw [upd_ne (ne_of_none upd_same hz1)]; exact upd_same, T.kStack, T.nStack_names, (by show 2 < 1000; decide), ?_⟩⟩
  refine ⟨fun σ HC => σ = [some (.ref x), some (.ref q), none, none, none, none] ∧ Ex H0 HC ∧ HC x = some (.ins a.cStack dx (sf q z0 z1 1)) ∧ HC q = some (.tup xs) ∧ HC z0 = some (.tup []) ∧ HC z1 = some (.tup []), ?_, ?_⟩
  · refine ⟨_, rfl, x, a.cStack, dx, _, rfl, upd_same, T.kStack, T.nStack_depth, (by show 3 < 1000; decide), ?_⟩
    have nz0x : x ≠ z0 := ne_of_none upd_same hz0
    have nz1x : x ≠ z1 := ne_of_none upd_same hz1
    have nz0q : q ≠ z0 := ne_of_none (o := .tup xs) (by rw [upd_ne nqx]; exact hq) hz0
    have nz1q : q ≠ z1 := ne_of_none (o := .tup xs) (by rw [upd_ne nqx, upd_ne nz0q, upd_ne nqx]; exact hq) hz1
    have nz01 : z0 ≠ z1 := ne_of_none (o := .tup []) (by rw [upd_ne nz0x.symm]; exact upd_same) hz1
    have f0 : H0 z0 = none := by
      cases h1 : H0 z0 with
      | none => rfl
      | some o => rw [upd_ne nz0x.symm, e0 z0 o h1] at hz0; cases hz0
    have f1 : H0 z1 = none := by
      cases h1 : H0 z1 with
      | none => rfl
      | some o => rw [upd_ne nz1x.symm, upd_ne nz01.symm, upd_ne nz1x.symm, e0 z1 o h1] at hz1; cases hz1
    refine ⟨rfl, ((((((e0.mut h0x).mut f0).mut h0x).mut f1).mut h0x).mut h0x), upd_same, ?_, ?_, ?_⟩
    · rw [upd_ne nqx, upd_ne nqx, upd_ne nz1q, upd_ne nqx, upd_ne nz0q, upd_ne nqx]; exact hq
    · rw [upd_ne nz0x.symm, upd_ne nz0x.symm, upd_ne nz01, upd_ne nz0x.symm]; exact upd_same
    · rw [upd_ne nz1x.symm, upd_ne nz1x.symm]; exact upd_same
  clear hz0 hz1 hx hq e0
  rintro _ HC ⟨rfl, eC, cx, cq, c0, c1⟩
  refine ⟨_, rfl, q, xs, rfl, SqT.of cq, ?_⟩
  have hlen := Ents.len t xs he
  refine for_it walk_p (fun i σ H' => ∃ (u v : Tr) (st nm : Addr) (rs : List V) (y2 y3 y4 y5 : Option V), σ = [some (.ref x), some (.ref q), y2, y3, y4, y5] ∧ Ex H0 H' ∧ H' x = some (.ins a.cStack dx (sf q st nm u.depth)) ∧ H' q = some (.tup xs) ∧ H' st = some (.tup rs) ∧ Steps a H0 u.rules rs ∧
      H' nm = some (.tup (nms (Ka.names u))) ∧ t = u.app v ∧ u.len = i ∧ Ents a H0 v (xs.drop i))
    ⟨.nil, t, z0, z1, [], none, none, none, none, rfl, eC, cx, cq, c0, rfl, c1, rfl, rfl, he⟩ (fun i σ H' _ ⟨_, _, _, _, _, _, _, _, _, _, _, _, e, _⟩ => SqT.of e) ?_ ?_
  · rintro i v σ H1 _ hi ⟨u, tv, st, nm, rs, y2, y3, y4, y5, rfl, e1, hx, hq, hst, hS, hnm, et, hu, hv⟩ ⟨tp, rfl, htp, rfl⟩
    rw [List.drop_eq_getElem_cons hi] at hv
    obtain ⟨p, en, r, ep, hen, rfl, hr2⟩ := hv.uncons
    have eg : xs.getD i .non = .ref p := by rw [List.getD_eq_getElem?_getD, List.getElem?_eq_getElem hi]; exact ep
    rw [eg]
    have bC : u.count + en.count ≤ 12 := by rw [et, Ka.Tr.count_app, Ka.Tr.count_app] at hc; omega
    have bD : max u.depth en.depth ≤ 3 := by rw [et, Ka.Tr.depth_app, Ka.Tr.depth_app] at hd; omega
    have hin : i ≠ 12 := by rw [hlen] at hi; omega
    have nqx : q ≠ x := ne_of hq hx (by intro z; cases z)
    have e2 : Ex H0 (upd H1 tp (.tup [.int (i : Nat), .ref p])) := e1.trans (Ex.new htp)
    have k2 := Ex.new (o := .tup [.int (i : Nat), .ref p]) htp
    have hx2 := k2 _ _ hx
    have hq2 := k2 _ _ hq
    have hst2 := k2 _ _ hst
    have hnm2 := k2 _ _ hnm
    have hself : SqT K (upd H1 tp (.tup [.int (i : Nat), .ref p])) tp [.int (i : Nat), .ref p] := SqT.of upd_same
    generalize upd H1 tp (.tup [.int (i : Nat), .ref p]) = H2 at e2 hx2 hq2 hst2 hnm2 hself ⊢
    clear e1 hx hq hst hnm k2 htp
    refine ⟨tp, _, rfl, hself, rfl, _, _, rfl, _, _, rfl, rfl, ?_⟩
    -- what the rest asks, whatever is_stack is
    obtain ⟨b, hb, cl, hcl⟩ : ∃ b : Bool, (∃ dxe fse C, H0 p = some (.ins C dxe fse) ∧ C8.InsC K C ∧ PySem.W.kitOne K (.ref C) (.ref a.cStack) = some b ∧ (b = false → PySem.W.kitOne K (.ref C) (.ref a.cRule) = some true) ∧
        (b = true → C = a.cStack ∧ ∃ d, fse.lookup ("depth" : Str) = some (.int d) ∧ (((if d + 1 > (u.depth : Int) then d + 1 else (u.depth : Int)) : Int) = ((u.app en).depth : Nat)))) ∧ ∃ c : Bool, (b = false → (u.app en).depth = u.depth) := by
      cases hen with
      | rule h hk =>
        obtain ⟨dxe, te, h1, _⟩ := h
        refine ⟨false, ⟨dxe, _, _, h1, T.iRule, T.ruleNotStack, fun _ => T.iRule.me, fun z => nomatch z⟩, false, fun _ => ?_⟩
        rw [Ka.Tr.depth_app]
        show max u.depth 1 = u.depth
        have := Ka.Tr.one_le_depth u
        omega
      | @stk ti _ h =>
        obtain ⟨dxe, pa, ste, nme, yse, rse, h1, _⟩ := h
        refine ⟨true, ⟨dxe, _, _, h1, T.iStack, T.iStack.me, (fun z => nomatch z), fun _ => ⟨rfl, _, lk_depth .., ?_⟩⟩, false, fun z => nomatch z⟩
        rw [Ka.Tr.depth_app]
        show _ = ((max u.depth (max (ti.depth + 1) 1) : Nat) : Int)
        split <;> omega
    obtain ⟨dxe, fse, C, hp, hC, kS, kR, kD⟩ := hb
    refine ⟨_, rfl, _, _, _, _, b, rfl, .own _, ty_ins hC (e2 _ _ hp), kS, ?_⟩
    -- index == MOST_ENTRIES or ..
    refine ⟨fun σ' H' => σ' = [some (.ref x), some (.ref q), some (.int (i : Nat)), some (.ref p), some (.bl b), y5] ∧ H' = H2, ?_, ?_⟩
    · refine ⟨_, rfl, rfl, false, congrArg V.bl (decide_eq_false (fun z => hin (by cases z; rfl))), iteF ?_⟩
      cases b with
      | true => exact ⟨_, rfl, true, rfl, iteF ⟨rfl, rfl⟩⟩
      | false => exact ⟨_, rfl, false, rfl, iteT ⟨_, rfl, _, _, _, _, true, rfl, .own _, ty_ins hC (e2 _ _ hp), kR rfl, true, rfl, iteF ⟨rfl, rfl⟩⟩⟩
    rintro _ _ ⟨rfl, rfl⟩
    -- self.steps
    refine ⟨_, rfl, x, _, dx, _, _, rfl, hx2, T.kStack, T.nStack_steps, lk_steps .., _, rfl, p, en, H0, rfl, e2, hen, fun z zs H3 e3 hz hzs => ?_⟩
    have lr : rs.length + zs.length ≤ 100000 := by rw [hS.len, hzs.len, Ka.Tr.rules_length, Ka.Tr.rules_length]; omega
    refine cat_step (e3 _ _ hst2) hz lr fun z2 H4 e4 h4 => ?_
    have e34 := e3.trans e4
    refine ⟨_, rfl, x, a.cStack, dx, _, rfl, e34 _ _ hx2, T.kStack, T.nStack_steps, by rw [sf_len]; decide, ?_⟩
    rw [sf_steps]
    have hS2 : Steps a H0 (u.app en).rules (rs ++ zs) := by rw [Ka.Tr.rules_app]; exact hS.app hzs
    have e5 : Ex H0 (upd H4 x (.ins a.cStack dx (sf q z2 nm u.depth))) := (e2.trans e34).mut h0x
    have hx5 : upd H4 x (.ins a.cStack dx (sf q z2 nm u.depth)) x = some (.ins a.cStack dx (sf q z2 nm u.depth)) := upd_same
    have nzx : z2 ≠ x := ne_of h4 (e34 _ _ hx2) (by intro z; cases z)
    have nnx : nm ≠ x := ne_of (e34 _ _ hnm2) (e34 _ _ hx2) (by intro z; cases z)
    have hq5 : upd H4 x (.ins a.cStack dx (sf q z2 nm u.depth)) q = some (.tup xs) := by rw [upd_ne nqx]; exact e34 _ _ hq2
    have hz5 : upd H4 x (.ins a.cStack dx (sf q z2 nm u.depth)) z2 = some (.tup (rs ++ zs)) := by rw [upd_ne nzx]; exact h4
    have hn5 : upd H4 x (.ins a.cStack dx (sf q z2 nm u.depth)) nm = some (.tup (nms (Ka.names u))) := by rw [upd_ne nnx]; exact e34 _ _ hnm2
    have hp5 := e5 _ _ hp
    generalize upd H4 x (.ins a.cStack dx (sf q z2 nm u.depth)) = H5 at e5 hx5 hq5 hz5 hn5 hp5 ⊢
    clear e34 e4 e3 h4 hz
    -- self.names
    refine ⟨_, rfl, x, _, dx, _, _, rfl, hx5, T.kStack, T.nStack_steps, lk_steps .., z2, rfl, ⟨_, SqT.of hz5⟩, fun D hD => ?_⟩
    have lns : (nms ((u.app en).rules.map (·.1))).length = (rs ++ zs).length := by rw [hS2.len, nms, List.length_map, List.length_map]
    refine lc_all walk_tup (by rw [List.length_append]; omega) hD (fun i v _ => (nms ((u.app en).rules.map (·.1)))[i]? = some v) (fun _ _ _ _ _ h => h) (fun H' e => ex_t e (SqT.of hz5)) ?_ ?_
    · rintro j w _ H6 hj e6 ⟨rfl, hw⟩ R hR
      obtain ⟨pr, n, c, rfl, ⟨dxr, tr, hr1, hr2⟩, hat⟩ := asks_at hS2 hw
      exact ⟨rfl, _, rfl, pr, _, dxr, _, _, rfl, e6 _ _ (e5 _ _ hr1), T.kRule, T.nRule_asks, rf_asks .., hR _ _ (Ex.refl _) hat⟩
    intro ys H6 e6 hl6 ln6 hy6
    have eys : ys = nms ((u.app en).rules.map (·.1)) := list_ext (by rw [lns, ln6]) hy6
    subst eys
    refine ⟨D, (u.app en).rules.map (·.1), rfl, .inl (SqL.of hl6), by rw [List.length_map, Ka.Tr.rules_length, Ka.Tr.count_app]; omega, fun H7 w e7 hw => ?_⟩
    rw [sel_rules]
    refine .inl ⟨w, _, rfl, SqL.of upd_same, fun m hm => ?_⟩
    have e8 : Ex H5 (upd (upd H7 w (.lst (nms (Ka.names (u.app en))))) m (.tup (nms (Ka.names (u.app en))))) := ((e6.trans e7).trans (Ex.new hw)).trans (Ex.new hm)
    refine ⟨_, rfl, x, a.cStack, dx, _, rfl, e8 _ _ hx5, T.kStack, T.nStack_names, by rw [sf_len]; decide, ?_⟩
    rw [sf_names]
    have hm8 : upd (upd H7 w (.lst (nms (Ka.names (u.app en))))) m (.tup (nms (Ka.names (u.app en)))) m = some (.tup (nms (Ka.names (u.app en)))) := upd_same
    generalize upd (upd H7 w (.lst (nms (Ka.names (u.app en))))) m (.tup (nms (Ka.names (u.app en)))) = H8 at e8 hm8 ⊢
    clear e7 e6 hl6 hy6 hw hm
    have nmx : m ≠ x := ne_of hm8 (e8 _ _ hx5) (by intro z; cases z)
    have e9 : Ex H0 (upd H8 x (.ins a.cStack dx (sf q z2 m u.depth))) := (e5.trans e8).mut h0x
    have hx9 : upd H8 x (.ins a.cStack dx (sf q z2 m u.depth)) x = some (.ins a.cStack dx (sf q z2 m u.depth)) := upd_same
    have hq9 : upd H8 x (.ins a.cStack dx (sf q z2 m u.depth)) q = some (.tup xs) := by rw [upd_ne nqx]; exact e8 _ _ hq5
    have hz9 : upd H8 x (.ins a.cStack dx (sf q z2 m u.depth)) z2 = some (.tup (rs ++ zs)) := by rw [upd_ne nzx]; exact e8 _ _ hz5
    have hm9 : upd H8 x (.ins a.cStack dx (sf q z2 m u.depth)) m = some (.tup (nms (Ka.names (u.app en)))) := by rw [upd_ne nmx]; exact hm8
    generalize upd H8 x (.ins a.cStack dx (sf q z2 m u.depth)) = H9 at e9 hx9 hq9 hz9 hm9 ⊢
    clear e8 hm8 hx5 hq5 hz5 hn5 hp5 e5 hD
    -- self.depth
    refine ⟨fun σ' H' => σ' = [some (.ref x), some (.ref q), some (.int (i : Nat)), some (.ref p), some (.bl b), y5] ∧ Ex H0 H' ∧ H' x = some (.ins a.cStack dx (sf q z2 m (u.app en).depth)) ∧ H' q = some (.tup xs) ∧ H' z2 = some (.tup (rs ++ zs)) ∧ H' m = some (.tup (nms (Ka.names (u.app en)))), ?_, ?_⟩
    · refine ⟨_, rfl, x, _, dx, _, _, rfl, hx9, T.kStack, T.nStack_depth, lk_depth .., ?_⟩
      have fin : ∀ d : Int, d = ((u.app en).depth : Nat) → Ex H0 (upd H9 x (.ins a.cStack dx (putF "depth" (.int d) (sf q z2 m u.depth)))) ∧ (upd H9 x (.ins a.cStack dx (putF "depth" (.int d) (sf q z2 m u.depth)))) x = some (.ins a.cStack dx (sf q z2 m (u.app en).depth)) ∧
          (upd H9 x (.ins a.cStack dx (putF "depth" (.int d) (sf q z2 m u.depth)))) q = some (.tup xs) ∧ (upd H9 x (.ins a.cStack dx (putF "depth" (.int d) (sf q z2 m u.depth)))) z2 = some (.tup (rs ++ zs)) ∧ (upd H9 x (.ins a.cStack dx (putF "depth" (.int d) (sf q z2 m u.depth)))) m = some (.tup (nms (Ka.names (u.app en)))) := by
        intro d ed
        subst ed
        rw [sf_depth]
        exact ⟨e9.mut h0x, upd_same, by rw [upd_ne nqx]; exact hq9, by rw [upd_ne nzx]; exact hz9, by rw [upd_ne nmx]; exact hm9⟩
      cases b with
      | true =>
        obtain ⟨rfl, d, ld, ed⟩ := kD rfl
        exact ⟨_, rfl, true, rfl, iteT ⟨_, rfl, p, _, dxe, _, _, rfl, e9 _ _ hp, T.kStack, T.nStack_depth, ld, _, _, rfl, rfl, _, _, rfl, _, rfl, x, a.cStack, dx, _, rfl, hx9, T.kStack, T.nStack_depth, by rw [sf_len]; decide, rfl, fin _ ed⟩⟩
      | false =>
        have ed := hcl rfl
        refine ⟨_, rfl, false, rfl, iteF ⟨_, _, rfl, _, rfl, x, a.cStack, dx, _, rfl, hx9, T.kStack, T.nStack_depth, by rw [sf_len]; decide, rfl, fin _ ?_⟩⟩
        rw [ed]
        have := Ka.Tr.one_le_depth u
        split <;> omega
    clear hx9 hq9 hz9 hm9 e9 hx2 hq2 hst2 hnm2 e2 hself
    rintro _ H10 ⟨rfl, e9, hx9, hq9, hz9, hm9⟩
    have hd2 : (u.app en).depth ≤ 3 := by rw [Ka.Tr.depth_app]; exact bD
    have hnl : (nms (Ka.names (u.app en))).length ≤ 3 := by rw [nms, List.length_map]; exact Ka.names_len _
    refine ⟨_, rfl, x, _, dx, _, _, rfl, hx9, T.kStack, T.nStack_depth, lk_depth .., _, _, rfl, rfl, false, congrArg V.bl (decide_eq_false (by omega)), iteF ?_⟩
    refine ⟨_, rfl, x, _, dx, _, _, rfl, hx9, T.kStack, T.nStack_steps, lk_steps .., z2, _, rfl, .inr (SqT.of hz9), _, _, rfl, rfl, false, congrArg V.bl (decide_eq_false (by rw [hS2.len, Ka.Tr.rules_length, Ka.Tr.count_app]; omega)), iteF ?_⟩
    refine ⟨_, rfl, x, _, dx, _, _, rfl, hx9, T.kStack, T.nStack_names, lk_names .., m, _, rfl, .inr (SqT.of hm9), _, _, rfl, rfl, false, congrArg V.bl (decide_eq_false (by omega)), iteF ?_⟩
    refine ⟨u.app en, r, z2, m, rs ++ zs, _, _, _, _, rfl, e9, hx9, hq9, hz9, hS2, hm9, ?_, ?_, hr2⟩
    · rw [et, Ka.Tr.app_assoc]
    · rw [Ka.Tr.len_app, hu]
      cases hen <;> rfl
  · rintro σ H' ⟨u, v, st, nm, rs, y2, y3, y4, y5, rfl, e, hx, hq, hst, hS, hnm, et, hu, hv⟩
    rw [List.drop_eq_nil_of_le (Nat.le_refl _)] at hv
    have hv' : v = .nil := by
      cases v with
      | nil => rfl
      | rule _ _ _ => obtain ⟨_, _, z, _⟩ := hv; cases z
      | stk _ _ => obtain ⟨_, _, z, _⟩ := hv; cases z
    subst hv'
    rw [Ka.Tr.app_nil] at et
    subst et
    exact k H' e ⟨dx, q, st, nm, xs, rs, hx, hq, Ents.mono (NL.of e) _ _ he, hst, hS.mono (NL.of e), hnm⟩
end
end Kb

set_option Elab.async false
set_option linter.all false
set_option maxRecDepth 100000
set_option maxHeartbeats 8000000
/-! Stack(*entries), +, kept, without. -/
namespace Ka
/-- no inner stack has more than 12 entries -/
def Tr.fit : Tr → Prop
  | .nil => True
  | .rule _ _ r => r.fit
  | .stk i r => i.len ≤ 12 ∧ i.fit ∧ r.fit
theorem Tr.fit_app : ∀ t u : Tr, (t.app u).fit ↔ t.fit ∧ u.fit
  | .nil, u => by simp [Tr.app, Tr.fit]
  | .rule n a r, u => by simp only [Tr.app, Tr.fit, Tr.fit_app r u]
  | .stk i r, u => by simp only [Tr.app, Tr.fit, Tr.fit_app r u, and_assoc]
theorem keep_fit (ks : Int → Bool) : ∀ (t : Tr) (s : Int), t.fit → (keep ks t s).fit
  | .nil, _, h => h
  | .rule n a r, s, h => by
    have ih := keep_fit ks r (s + 1) h
    simp only [keep]; split
    · exact ih
    · exact ih
  | .stk i r, s, h => by
    have i1 := keep_fit ks i s h.2.1
    have i2 := keep_fit ks r (s + (i.count : Int)) h.2.2
    simp only [keep]; split
    · exact i2
    · exact ⟨Nat.le_trans (keep_len ks i s) h.1, i1, i2⟩
end Ka
namespace Kb
open PySem PySem.Spec PyProof.Rows L2 Evl
open Ka (Nm Res Mk Tr)
section
variable {X : Cx}
/-- a tuple against () -/
theorem op_eq0 (hu : X.A.units + 64 < cLine) : OpR X (compareOp .Eq) (fun x y H Q => ∃ p q xs, x = .ref p ∧ y = .ref q ∧ SqT X.K H p xs ∧ SqT X.K H q [] ∧ Q (.bl (decide (xs = []))) H) := by
  intro pins s σ H x y v u Q I rx ry h
  obtain ⟨p, q, xs, rfl, rfl, hp, hq, k⟩ := h
  obtain rfl : v = Value.ref p := rx
  obtain rfl : u = Value.ref q := ry
  obtain ⟨its, r1, p1, _⟩ := I.tuple hp
  obtain ⟨its2, r2, p2, _⟩ := I.tuple hq
  cases r2
  refine SeqAt.eq_tupleAt (e := fun _ => true) p1 p2 (by omega) (fun j h1 h2 => absurd h2 (by simp)) ⟨.bl _, H, I, ?_, k⟩
  show Value.bool _ = Value.bool _
  congr 1
  have hl := r1.length
  cases xs with
  | nil => cases r1; rfl
  | cons x xs => cases r1; simp
theorem op_ne0 (hu : X.A.units + 64 < cLine) : OpR X (compareOp .NotEq) (fun x y H Q => ∃ p q xs, x = .ref p ∧ y = .ref q ∧ SqT X.K H p xs ∧ SqT X.K H q [] ∧ Q (.bl (!decide (xs = []))) H) := by
  intro pins s σ H x y v u Q I rx ry h
  obtain ⟨p, q, xs, rfl, rfl, hp, hq, k⟩ := h
  obtain rfl : v = Value.ref p := rx
  obtain rfl : u = Value.ref q := ry
  obtain ⟨its, r1, p1, _⟩ := I.tuple hp
  obtain ⟨its2, r2, p2, _⟩ := I.tuple hq
  cases r2
  refine SeqAt.RcNeAt.tuples (e := fun _ => true) p1 p2 (by omega) (fun j h1 h2 => absurd h2 (by simp)) _ _ _ _ ⟨.bl _, H, I, ?_, k⟩
  show Value.bool _ = Value.bool _
  congr 1
  cases xs with
  | nil => cases r1; rfl
  | cons x xs => cases r1; simp
end
section
variable {P : Program} {w : World} {K : PySem.W.Frag} {mg : Str → Option Value} {base : Heap} {a : Ad}
theorem ok_stack (T : Tx K mg a) : SMk P w K mg base 2 "Stack" a.cStack (spStk a) := by
  obtain ⟨f, fd, M, F, hb⟩ := T.dStackInit
  refine ⟨f, M, ?_, T.gStack⟩
  obtain ⟨oc, od, dV, kV, doc, pm, an, cdv, ct, osl, rfl, lk, hcd⟩ := F.ex
  refine FnR.imp (StX.fn_star (ps := ["self"]) (pv := "entries") (k := 1) (sp := spStkI a) lk hcd scStackInit (fun _ _ _ _ _ _ _ _ _ _ _ z => z) hb (fun A outer s H vs Q E hr h => ?_)) fun vs H Q E h => ?_
  · obtain ⟨t, h1, h2⟩ := stack_body T f cdv A outer s H vs Q E hr h
    exact ⟨t, h1.nox, h2⟩
  · obtain ⟨x, dx, rest, t, H0, rfl, hx, h0, e0, he, b1, b2, b3, k⟩ := h
    refine ⟨[.ref x], rest, rfl, rfl, ?_, fun p hp => ⟨x, dx, p, rest, t, H0, rfl, ?_, upd_same, h0, e0.trans (Ex.new hp), he, b1, b2, b3, k⟩⟩
    · rw [Ents.len t rest he]; exact sz_of (by omega)
    · rw [upd_ne (ne_of_none hx hp)]; exact hx
/-- what a new stack asks -/
theorem stk_new {H1 : Hp} {t : Tr} {xs : List V} {Q : VK} (he : Ents a H1 t xs) (b1 : t.count ≤ 12) (b2 : t.len ≤ 12) (b3 : t.depth ≤ 3) (k : ∀ x H', Ex H1 H' → StackAt a H' x t → Q (.ref x) H') :
    ∀ x dx, H1 x = none → H1 dx = none → dx ≠ x → spStk a (.ref x :: xs) (upd (upd H1 dx (.own x)) x (.ins a.cStack dx [])) (fun v H2 => v = .non ∧ Q (.ref x) H2) C8.E0 := fun x dx hx hdx _ =>
  ⟨x, dx, xs, t, H1, rfl, upd_same, hx, ((Ex.refl H1).mut hdx).mut hx, he, b1, b2, b3, fun H' e h => ⟨rfl, k x H' e h⟩⟩
def spAdd (a : Ad) : Sp := fun vs H Q _ => ∃ (p q : Addr) (t u : Tr), vs = [.ref p, .ref q] ∧ StackAt a H p t ∧ StackAt a H q u ∧ (t.app u).count ≤ 12 ∧ (t.app u).len ≤ 12 ∧ (t.app u).depth ≤ 3 ∧ ∀ z H', Ex H H' → StackAt a H' z (t.app u) → Q (.ref z) H'
theorem ok_add (T : Tx K mg a) : C8.Met P w K mg base 4 a.cStack "__add__" (spAdd a) [] := by
  refine met_of T.kStack T.dStackAdd scStackAdd (fun vs H Q E h => ?_) (fun f cdv A outer s H vs Q E hr h => ?_)
  · obtain ⟨_, _, _, _, rfl, _⟩ := h; rfl
  · obtain ⟨p, q, t, u, rfl, hp, hq, b1, b2, b3, k⟩ := h
    refine ⟨_, pss_cons (ps_set (i := 2) scStackAdd.nd rfl (Or.inl rfl) (pe_op op_catA (pe_fld (pv 0) rfl) (pe_fld (pv 1) rfl))) (pss_one (ps_ret (pe_smS (ok_stack T) hr (by decide) (by rfl) (pv 2)))), ?_⟩
    obtain ⟨dx, pa, st, nm, ys, rs, h1, h2, h3, h4, h5, h6⟩ := hp
    obtain ⟨dx', pa', st', nm', ys', rs', h1', h2', h3', h4', h5', h6'⟩ := hq
    refine ⟨_, rfl, p, _, dx, _, _, rfl, h1, T.kStack, T.nStack_parts, lk_parts .., _, rfl, q, _, dx', _, _, rfl, h1', T.kStack, T.nStack_parts, lk_parts .., ?_⟩
    have l1 := Ents.len _ _ h3
    have l2 := Ents.len _ _ h3'
    rw [Ka.Tr.len_app] at b2
    refine cat_step h2 h2' (by omega) fun z H' e hz => ?_
    refine ⟨_, rfl, z, _, rfl, .inl (SqT.of hz), stk_new (Ents.mono (NL.of e) _ _ (Ents.app _ _ _ _ h3 h3')) b1 (by rw [Ka.Tr.len_app]; exact b2) b3 fun x H2 e2 hx => k x H2 (e.trans e2) hx⟩
theorem inV_int (k : Int) (ks : List Int) : inV (.int k) (iV ks) = decide (k ∈ ks) := by
  induction ks with
  | nil => rfl
  | cons j ks ih =>
    have e : inV (.int k) (iV (j :: ks)) = (eqV (.int j) (.int k) || inV (.int k) (iV ks)) := rfl
    have e2 : eqV (.int j) (.int k) = decide (j = k) := by unfold eqV; first | rfl | (simp; done) | (by_cases h : j = k <;> simp [h])
    rw [e, ih, e2, Bool.eq_iff_iff]
    simp only [Bool.or_eq_true, decide_eq_true_eq, List.mem_cons]
    exact or_congr eq_comm Iff.rfl
theorem flat_ints (ks : List Int) : (iV ks).all flatV = true := by
  unfold iV
  rw [List.all_map, List.all_eq_true]
  intro x _; rfl
/-- kept, stacks of depth at most d -/
def inK (ks : List Int) : Int → Bool := fun k => decide (k ∈ ks)
def spKept (K : PySem.W.Frag) (a : Ad) (d : Nat) : Sp := fun vs H Q _ => ∃ (p nt : Addr) (s : Int) (t : Tr) (ks : List Int), vs = [.ref p, .int s, .ref nt] ∧ StackAt a H p t ∧ SqT K H nt (iV ks) ∧ t.depth ≤ d ∧ t.count ≤ 12 ∧ t.len ≤ 12 ∧ t.fit ∧ t.depth ≤ 3 ∧
  ∀ z H', Ex H H' → StackAt a H' z (Ka.keep (inK ks) t s) → Q (.ref z) H'
theorem len_le_of_depth {t : Tr} : True := trivial
theorem firsts_len : ∀ (t : Tr) (s : Int), (t.firsts s).length = t.len
  | .nil, _ => rfl
  | .rule _ _ r, s => by simp only [Tr.firsts, Tr.len, List.length_cons, firsts_len r]
  | .stk i r, s => by simp only [Tr.firsts, Tr.len, List.length_cons, firsts_len r]
theorem getD_at {xs : List V} {i : Nat} {x : V} {ys : List V} (h : xs.drop i = x :: ys) : xs.getD i .non = x ∧ xs.drop (i + 1) = ys ∧ i < xs.length := by
  have hi : i < xs.length := by
    rcases Nat.lt_or_ge i xs.length with c | c
    · exact c
    · rw [List.drop_eq_nil_of_le c] at h; cases h
  rw [List.drop_eq_getElem_cons hi] at h
  simp only [List.cons.injEq] at h
  exact ⟨by rw [List.getD_eq_getElem?_getD, List.getElem?_eq_getElem hi]; exact h.1, h.2, hi⟩
theorem keep_app (ks : Int → Bool) (t : Tr) : True := trivial
theorem ok_kept (T : Tx K mg a) : ∀ d : Nat, C8.Cal P w K mg base (4 + d) "kept" (spKept K a d) [] := by
  intro d
  induction d with
  | zero =>
    refine cal_of T.dKept scKept (fun vs H Q E h => ?_) (fun f cdv A outer s H vs Q E hr h => ?_)
    · obtain ⟨_, _, _, _, _, rfl, _⟩ := h; rfl
    · obtain ⟨p, nt, s0, t, ks, rfl, hp, hn, hd, _⟩ := h
      have := Ka.Tr.one_le_depth t
      omega
  | succ d ih =>
    refine cal_of (k := 4 + d) T.dKept scKept (fun vs H Q E h => ?_) (fun f cdv A outer s H vs Q E hr h => ?_)
    · obtain ⟨_, _, _, _, _, rfl, _⟩ := h; rfl
    · obtain ⟨p, nt, s0, t, ks, rfl, hp, hn, hd, b1, b2, bf, b3, k⟩ := h
      have nd := scKept.nd
      refine ⟨_, pss_cons (ps_set (i := 3) nd rfl (Or.inl rfl) (pe_lst pa_nil))
        (pss_cons (ps_for PassesOwn.never rfl (pi_zipTL (by rfl) T.b_zip (pa_cons (pe_fld (pv 0) rfl) (pa_cons (C8.pe_c (ok_firsts_of T) hr (by omega) (by rfl) (pa_cons (pv 0) (pa_cons (pv 1) pa_nil))) pa_nil)))
            (pg_tup rfl (pgs_cons (pg_name (i := 4) nd rfl (Or.inl rfl)) (pgs_cons (pg_name (i := 5) nd rfl (Or.inl rfl)) pgs_nil)))
          (pss_one (ps_if (pt_not (pt_val (pe_callB call_isi (by rfl) T.b_isinstance PyProof.Rows.boot_isinstance (pa_cons (pv 4) (pa_cons (gcls T.gStack) pa_nil)))))
            (pss_one (ps_if (pt_cmpR op_notIn_seq (pv 5) (pv 2) (by rfl))
              (pss_one (ps_expr (pe_bm PySem.F.plainAttrs_list PySem.F.slot_list_append PySem.F.type_list_append mt_append (pv 3) (pa_cons (pv 4) pa_nil)))) pss_nil))
            (pss_cons (ps_set (i := 6) nd rfl (Or.inl rfl) (C8.pe_c ih hr (by omega) (by rfl) (pa_cons (pv 4) (pa_cons (pv 5) (pa_cons (pv 2) pa_nil)))))
              (pss_one (ps_if (PW.pt (pw_or (pt_cmpR (op_ne0 hr.units) (pe_fld (pv 6) rfl) (pe_tup pa_nil) (nomark _)) (pw_or1 (pt_cmpR (op_eq0 hr.units) (pe_fld (pv 4) rfl) (pe_tup pa_nil) (nomark _)))))
                (pss_one (ps_expr (pe_bm PySem.F.plainAttrs_list PySem.F.slot_list_append PySem.F.type_list_append mt_append (pv 3) (pa_cons (pv 6) pa_nil)))) pss_nil))))))
        (pss_one (ps_ret (pe_smS (ok_stack T) hr (by omega) (by rfl) (pv 3))))), ?_⟩
      have hp0 := hp
      obtain ⟨dx, pa, st, nm, ys, rs, h1, h2, h3, h4, h5, h6⟩ := hp
      have hly := Ents.len _ _ h3
      refine ⟨Nat.zero_le _, fun D hD => ?_⟩
      have e0 : Ex H (upd H D (.lst [])) := Ex.new hD
      refine ⟨_, rfl, p, _, dx, _, _, rfl, e0 _ _ h1, T.kStack, T.nStack_parts, lk_parts .., _, rfl, _, rfl, p, s0, t, rfl, hp0.mono (NL.of e0), by omega, fun q H2 e2 hq2 hq => ?_⟩
      have nDq : D ≠ q := fun z => by rw [← z, upd_same] at hq2; cases hq2
      have hqn : H q = none := fresh_back e0 hq2
      refine ⟨pa, q, ys, iV (t.firsts s0), rfl, SqT.of (e2 _ _ (e0 _ _ h2)), SqL.of hq, ?_⟩
      have hmin : min ys.length (iV (t.firsts s0)).length = ys.length := by rw [iV, List.length_map, firsts_len, hly]; omega
      rw [hmin]
      refine for_it walk_p (fun i σ H' => ∃ (v u : Tr) (s' : Int) (acc : List V) (y4 y5 y6 : Option V), σ = [some (.ref p), some (.int s0), some (.ref nt), some (.ref D), y4, y5, y6] ∧ Ex H H' ∧ H' D = some (.lst acc) ∧ H' q = some (.lst (iV (t.firsts s0))) ∧
          Ents a H v (ys.drop i) ∧ (iV (t.firsts s0)).drop i = iV (v.firsts s') ∧ Ents a H' u acc ∧ Ka.keep (inK ks) t s0 = u.app (Ka.keep (inK ks) v s') ∧ v.count ≤ 12 ∧ v.len ≤ 12 ∧ v.fit ∧ v.depth ≤ t.depth)
        ⟨t, .nil, s0, [], none, none, none, rfl, e0.trans e2, e2 _ _ upd_same, hq, h3, rfl, rfl, rfl, b1, b2, bf, Nat.le_refl _⟩
        (fun i σ H' _ ⟨_, _, _, _, _, _, _, _, e, _, hq', _⟩ => ⟨SqT.of (e _ _ h2), SqL.of hq'⟩) ?_ ?_
      · rintro i vv σ H1 _ hi ⟨v, u, s', acc, y4, y5, y6, rfl, e1, hD1, hq1, hv, hf, hu, hk, c1, c2, cf, c3⟩ ⟨tp, rfl, htp, rfl⟩
        rw [List.drop_eq_getElem_cons hi] at hv
        obtain ⟨pe, en, r, ep, hen, rfl, hr2⟩ := hv.uncons
        have eg : ys.getD i .non = .ref pe := by rw [List.getD_eq_getElem?_getD, List.getElem?_eq_getElem hi]; exact ep
        rw [eg]
        have hfd : (iV (t.firsts s0)).getD i .non = .int s' ∧ (iV (t.firsts s0)).drop (i + 1) = iV (r.firsts (s' + (en.count : Int))) ∧ i < (iV (t.firsts s0)).length := by
          refine getD_at ?_
          rw [hf]
          cases hen with
          | rule _ _ => rfl
          | stk _ => simp only [Tr.app, Tr.firsts, Tr.count, Nat.add_zero]; rfl
        obtain ⟨hf1, hf2, _⟩ := hfd
        rw [hf1]
        have e2' : Ex H (upd H1 tp (.tup [.ref pe, .int s'])) := e1.trans (Ex.new htp)
        have k2 := Ex.new (o := .tup [.ref pe, .int s']) htp
        have hD2 := k2 _ _ hD1
        have hq2 := k2 _ _ hq1
        have hu2 := Ents.mono (NL.of k2) _ _ hu
        have hself : SqT K (upd H1 tp (.tup [.ref pe, .int s'])) tp [.ref pe, .int s'] := SqT.of upd_same
        generalize upd H1 tp (.tup [.ref pe, .int s']) = H2 at e2' hD2 hq2 hu2 hself ⊢
        clear e1 hD1 hq1 hu k2 htp
        have la : acc.length ≤ 12 := by
          rw [Ents.len _ _ hu2]
          have z := Ka.keep_len (inK ks) t s0
          rw [hk, Ka.Tr.len_app] at z
          omega
        refine ⟨tp, _, rfl, hself, rfl, _, _, rfl, _, _, rfl, rfl, ?_⟩
        -- the two ends
        have put : ∀ (H3 : Hp) (z : Addr) (e : Tr), Ex H2 H3 → Ent a H3 e z → Ents a (upd H3 D (.lst (acc ++ [.ref z]))) (u.app e) (acc ++ [.ref z]) := fun H3 z e e3 hz =>
          Ents.mono ((NL.refl H3).put (e3 _ _ hD2)) _ _ (Ents.app _ _ _ _ (Ents.mono (NL.of e3) _ _ hu2) hz.ents)
        cases hen with
        | @rule n c _ hR hc =>
          have hR0 := hR
          obtain ⟨dxe, te, g1, g2⟩ := hR0
          refine ⟨_, rfl, _, _, _, _, false, rfl, .own _, ty_ins T.iRule (e2' _ _ g1), T.ruleNotStack, false, rfl, iteT ?_⟩
          refine ⟨_, rfl, _, rfl, nt, _, rfl, .inr (ex_t e2' hn), rfl, flat_ints ks, ?_⟩
          rw [inV_int]
          have hc1 : r.count ≤ 12 := by simp only [Tr.app, Tr.count] at c1; omega
          have hc2 : r.len ≤ 12 := by simp only [Tr.app, Tr.len] at c2; omega
          by_cases hm : s' ∈ ks
          · rw [decide_eq_true hm]
            refine ⟨false, rfl, iteF ⟨r, u, s' + 1, acc, _, _, y6, rfl, e2', hD2, hq2, hr2, hf2, hu2, ?_, hc1, hc2, cf, c3⟩⟩
            rw [hk]
            simp only [Tr.app, Ka.keep, inK, decide_eq_true hm, if_true]
          · rw [decide_eq_false hm]
            refine ⟨true, rfl, iteT ⟨_, rfl, .inl ⟨rfl, _, SqL.of hD2⟩, _, rfl, D, _, _, rfl, rfl, hD2, sz_lt (by omega), ?_⟩⟩
            refine ⟨r, u.app (.rule n c .nil), s' + 1, _, _, _, y6, rfl, e2'.mut hD, upd_same, by rw [upd_ne nDq.symm]; exact hq2, hr2, hf2, put H2 pe _ (Ex.refl H2) (.rule (hR.mono (NL.of e2')) hc), ?_, hc1, hc2, cf, c3⟩
            rw [hk, Ka.Tr.app_assoc]
            simp only [Tr.app, Ka.keep, inK, decide_eq_false hm, if_false, Bool.false_eq_true]
        | @stk ti _ hS =>
          have hS0 := hS
          obtain ⟨dxe, pae, ste, nme, yse, rse, g1, g2, g3, _⟩ := hS0
          simp only [Tr.app, Tr.count, Tr.len, Tr.depth] at c1 c2 c3
          have tc : ti.count ≤ 12 := by omega
          refine ⟨_, rfl, _, _, _, _, true, rfl, .own _, ty_ins T.iStack (e2' _ _ g1), T.iStack.me, true, rfl, iteF ?_⟩
          have hcl : r.len ≤ 12 := by omega
          have hcc : r.count ≤ 12 := by omega
          refine ⟨_, rfl, _, rfl, _, rfl, pe, nt, s', ti, ks, rfl, hS.mono (NL.of e2'), ex_t e2' hn, by omega, tc, cf.1, cf.2.1, by omega, fun z H3 e3 hz => ?_⟩
          have hz0 := hz
          obtain ⟨dz, paz, stz, nmz, ysz, rsz, w1, w2, w3, _⟩ := hz0
          have lz := Ents.len _ _ w3
          have le := Ents.len _ _ g3
          have nilz : decide (ysz = []) = (Ka.keep (inK ks) ti s').isNil := by
            rw [Bool.eq_iff_iff, decide_eq_true_eq, Ka.Tr.isNil_iff]
            constructor
            · intro e; rw [e] at lz
              cases hh : Ka.keep (inK ks) ti s' with
              | nil => rfl
              | rule _ _ _ => rw [hh] at lz; simp [Ka.Tr.len] at lz
              | stk _ _ => rw [hh] at lz; simp [Ka.Tr.len] at lz
            · intro e; rw [e] at lz; exact List.eq_nil_of_length_eq_zero lz
          have nile : decide (yse = []) = ti.isNil := by
            rw [Bool.eq_iff_iff, decide_eq_true_eq, Ka.Tr.isNil_iff]
            constructor
            · intro e; rw [e] at le
              cases ti with
              | nil => rfl
              | rule _ _ _ => simp [Ka.Tr.len] at le
              | stk _ _ => simp [Ka.Tr.len] at le
            · intro e; rw [e] at le; exact List.eq_nil_of_length_eq_zero le
          -- what is appended
          refine ⟨_, rfl, z, _, dz, _, _, rfl, w1, T.kStack, T.nStack_parts, lk_parts .., Nat.zero_le _, fun w hw => ⟨paz, w, ysz, rfl, rfl, SqT.of (Ex.new hw _ _ w2), SqT.of upd_same, ?_⟩⟩
          have e4 := Ex.new (o := .tup []) hw
          rw [nilz]
          cases hb : (Ka.keep (inK ks) ti s').isNil with
          | false =>
            refine ⟨true, rfl, iteT ⟨_, rfl, .inl ⟨rfl, _, SqL.of (e4 _ _ (e3 _ _ hD2))⟩, _, rfl, D, _, _, rfl, rfl, e4 _ _ (e3 _ _ hD2), sz_lt (by omega), ?_⟩⟩
            refine ⟨r, u.app (.stk (Ka.keep (inK ks) ti s') .nil), s' + (ti.count : Int), _, _, _, _, rfl, ((e2'.trans e3).trans e4).mut hD, upd_same, by rw [upd_ne nDq.symm]; exact e4 _ _ (e3 _ _ hq2), hr2, by simpa [Tr.app, Tr.count] using hf2, put _ z _ (e3.trans e4) (.stk (hz.mono (NL.of e4))), ?_, hcc, hcl, cf.2.2, by omega⟩
            rw [hk, Ka.Tr.app_assoc]
            simp only [Tr.app, Ka.keep, hb, Bool.false_and, if_false, Bool.false_eq_true]
          | true =>
            refine ⟨false, rfl, iteF ?_⟩
            refine ⟨_, rfl, pe, _, dxe, _, _, rfl, e4 _ _ (e3 _ _ (e2' _ _ g1)), T.kStack, T.nStack_parts, lk_parts .., Nat.zero_le _, fun w' hw' => ⟨pae, w', yse, rfl, rfl, SqT.of (Ex.new hw' _ _ (e4 _ _ (e3 _ _ (e2' _ _ g2)))), SqT.of upd_same, ?_⟩⟩
            have e5 := Ex.new (o := .tup []) hw'
            have e35 := e3.trans (e4.trans e5)
            rw [nile]
            cases hb2 : ti.isNil with
            | true =>
              refine ⟨true, rfl, iteT ⟨_, rfl, .inl ⟨rfl, _, SqL.of (e35 _ _ hD2)⟩, _, rfl, D, _, _, rfl, rfl, e35 _ _ hD2, sz_lt (by omega), ?_⟩⟩
              refine ⟨r, u.app (.stk (Ka.keep (inK ks) ti s') .nil), s' + (ti.count : Int), _, _, _, _, rfl, (e2'.trans e35).mut hD, upd_same, by rw [upd_ne nDq.symm]; exact e35 _ _ hq2, hr2, by simpa [Tr.app, Tr.count] using hf2, put _ z _ e35 (.stk (hz.mono (NL.of (e4.trans e5)))), ?_, hcc, hcl, cf.2.2, by omega⟩
              rw [hk, Ka.Tr.app_assoc]
              simp only [Tr.app, Ka.keep, hb, hb2, Bool.not_true, Bool.and_false, if_false, Bool.false_eq_true]
            | false =>
              refine ⟨false, rfl, iteF ?_⟩
              refine ⟨r, u, s' + (ti.count : Int), acc, _, _, _, rfl, e2'.trans e35, e35 _ _ hD2, e35 _ _ hq2, hr2, by simpa [Tr.app, Tr.count] using hf2, Ents.mono (NL.of e35) _ _ hu2, ?_, hcc, hcl, cf.2.2, by omega⟩
              rw [hk]
              simp only [Tr.app, Ka.keep, hb, hb2, Bool.not_false, Bool.and_true, if_true]
      · rintro σ H' ⟨v, u, s', acc, y4, y5, y6, rfl, e, hD', hq', hv, hf, hu, hk, c1, c2, cf, c3⟩
        rw [List.drop_eq_nil_of_le (Nat.le_refl _)] at hv
        have hv' : v = .nil := by
          cases v with
          | nil => rfl
          | rule _ _ _ => obtain ⟨_, _, z, _⟩ := hv; cases z
          | stk _ _ => obtain ⟨_, _, z, _⟩ := hv; cases z
        subst hv'
        rw [show Ka.keep (inK ks) .nil s' = .nil from rfl, Ka.Tr.app_nil] at hk
        refine ⟨_, rfl, D, acc, rfl, .inr (SqL.of hD'), stk_new hu ?_ ?_ ?_ fun x H2 e2 hx => k x H2 (e.trans e2) (by rw [hk]; exact hx)⟩
        · rw [← hk]; exact Nat.le_trans (Ka.keep_count _ _ _) b1
        · rw [← hk]; exact Nat.le_trans (Ka.keep_len _ _ _) b2
        · rw [← hk]; exact Nat.le_trans (Ka.keep_depth _ _ _) b3
end
end Kb

set_option Elab.async false
set_option linter.all false
set_option maxRecDepth 100000
set_option maxHeartbeats 8000000
/-! without, marked, ended, Run. -/
namespace Ka
def Tr.skip : Nat → Tr → Tr
  | 0, t => t
  | _ + 1, .nil => .nil
  | k + 1, .rule _ _ r => r.skip k
  | k + 1, .stk _ r => r.skip k
def Tr.skipS : Nat → Tr → Int → Int
  | 0, _, s => s
  | _ + 1, .nil, s => s
  | k + 1, .rule _ _ r, s => r.skipS k (s + 1)
  | k + 1, .stk i r, s => r.skipS k (s + (i.count : Int))
theorem run_skip (f : Nm → Res) : ∀ (k : Nat) (t : Tr) (b : Mk) (s : Int) (m : Mk), run f t b k s m = run f (t.skip k) b 0 (t.skipS k s) m
  | 0, _, _, _, _ => rfl
  | k + 1, .nil, _, _, _ => rfl
  | k + 1, .rule n a r, b, s, m => by
    show run f r b k (s + 1) m = _
    rw [run_skip f k r]; rfl
  | k + 1, .stk i r, b, s, m => by
    show run f r b k (s + (i.count : Int)) m = _
    rw [run_skip f k r]; rfl
theorem firsts_skip : ∀ (k : Nat) (t : Tr) (s : Int), (t.skip k).firsts (t.skipS k s) = (t.firsts s).drop k
  | 0, _, _ => rfl
  | k + 1, .nil, _ => rfl
  | k + 1, .rule n a r, s => by
    show (r.skip k).firsts (r.skipS k (s + 1)) = (r.firsts (s + 1)).drop k
    exact firsts_skip k r _
  | k + 1, .stk i r, s => by
    show (r.skip k).firsts (r.skipS k (s + (i.count : Int))) = (r.firsts (s + (i.count : Int))).drop k
    exact firsts_skip k r _
theorem skip_le : ∀ (k : Nat) (t : Tr), (t.skip k).count ≤ t.count ∧ (t.skip k).depth ≤ t.depth ∧ ((t.fit) → (t.skip k).fit) ∧ ∀ n, (t.skip k).has n = true → t.has n = true
  | 0, _ => ⟨Nat.le_refl _, Nat.le_refl _, id, fun _ h => h⟩
  | k + 1, .nil => ⟨Nat.le_refl _, Nat.le_refl _, id, fun _ h => h⟩
  | k + 1, .rule n a r => by
    obtain ⟨h1, h2, h3, h4⟩ := skip_le k r
    exact ⟨Nat.le_trans h1 (Nat.le_succ _), h2, h3, fun m h => by simp [Tr.has, h4 m h]⟩
  | k + 1, .stk i r => by
    obtain ⟨h1, h2, h3, h4⟩ := skip_le k r
    exact ⟨Nat.le_trans h1 (Nat.le_add_left _ _), Nat.le_trans h2 (Nat.le_max_right _ _), fun h => h3 h.2.2, fun m h => by simp [Tr.has, h4 m h]⟩
end Ka
namespace Kb
open PySem PySem.Spec PyProof.Rows L2 Evl
open Ka (Nm Res Mk Tr)
theorem Ents.skip {a : Ad} {H : Hp} : ∀ (k : Nat) (t : Tr) (xs : List V), Ents a H t xs → Ents a H (t.skip k) (xs.drop k)
  | 0, _, _, h => h
  | k + 1, .nil, _, h => by
    have e : _ = [] := h
    rw [e]; exact rfl
  | k + 1, .rule n c r, _, ⟨p, ys, e1, _, _, h⟩ => by rw [e1]; exact Ents.skip k r ys h
  | k + 1, .stk i r, _, ⟨p, ys, e1, _, h⟩ => by rw [e1]; exact Ents.skip k r ys h
section
variable {P : Program} {w : World} {K : PySem.W.Frag} {mg : Str → Option Value} {base : Heap} {a : Ad}
def spWithout (K : PySem.W.Frag) (a : Ad) : Sp := fun vs H Q _ => ∃ (p nt : Addr) (t : Tr) (ks : List Int), vs = [.ref p, .ref nt] ∧ StackAt a H p t ∧ SqT K H nt (iV ks) ∧ ks.Nodup ∧ (∀ k ∈ ks, 0 ≤ k ∧ k < (t.count : Int)) ∧ t.count ≤ 12 ∧ t.len ≤ 12 ∧ t.fit ∧ t.depth ≤ 3 ∧
  ∀ z H', Ex H H' → StackAt a H' z (Ka.keep (inK ks) t 0) → Q (.ref z) H'
theorem cut_take (xs : List V) (i : Nat) : cutV xs none (some (i : Int)) = xs.take i := by
  unfold cutV
  rw [HT.sIx_none, HT.sIx_nat, List.drop_zero, Nat.sub_zero]
  rcases Nat.le_total i xs.length with h | h
  · rw [Nat.min_eq_left h]
  · rw [Nat.min_eq_right h, List.take_of_length_le (Nat.le_refl _), List.take_of_length_le h]
theorem ok_without (T : Tx K mg a) : C8.Met P w K mg base 8 a.cStack "without" (spWithout K a) [] := by
  refine met_of T.kStack T.dWithout scWithout (fun vs H Q E h => ?_) (fun f cdv A outer s H vs Q E hr h => ?_)
  · obtain ⟨_, _, _, _, rfl, _⟩ := h; rfl
  · obtain ⟨p, nt, t, ks, rfl, hp, hn, nd, hk, b1, b2, bf, b3, k⟩ := h
    have nd2 := scWithout.nd
    refine ⟨_, pss_cons (ps_for PassesOwn.never rfl (pi_enumT (by rfl) T.b_enumerate (pa_cons (pv 1) pa_nil)) (pg_tup rfl (pgs_cons (pg_name (i := 2) nd2 rfl (Or.inl rfl)) (pgs_cons (pg_name (i := 3) nd2 rfl (Or.inl rfl)) pgs_nil)))
        (pss_one (ps_if (PW.pt (pw_or (pt_not (pt_val (C8.pe_c (ok_is_number T) hr (by decide) (by rfl) (pa_cons (pv 3) (pa_cons pe_int (pa_cons (pe_op op_sub (pe_callB call_len_seq (by rfl) T.b_len PySem.boot_len (pa_cons (pe_fld (pv 0) rfl) pa_nil)) pe_int) pa_nil))))))
          (pw_or1 (pt_cmpR op_in_seq (pv 3) (pe_slice sl_tupA (pv 1) po_none (po_some (pv 2))) (by rfl))))) pss_never pss_nil)))
      (pss_one (ps_ret (C8.pe_c (ok_kept T 3) hr (by decide) (by rfl) (pa_cons (pv 0) (pa_cons pe_int (pa_cons (pv 1) pa_nil)))))), ?_⟩
    have hp0 := hp
    obtain ⟨dx, pa, st, nm, ys, rs, h1, h2, h3, h4, h5, h6⟩ := hp0
    refine ⟨_, rfl, nt, iV ks, rfl, hn, ?_⟩
    have lk : (iV ks).length = ks.length := List.length_map _
    have ix : ∀ i, i < ks.length → ∃ k, ks[i]? = some k ∧ (iV ks).getD i .non = .int k := fun i hi => by
      refine ⟨ks[i], List.getElem?_eq_getElem hi, ?_⟩
      rw [List.getD_eq_getElem?_getD, iV, List.getElem?_map, List.getElem?_eq_getElem hi]; rfl
    refine for_it walk_p (fun i σ H' => ∃ y2 y3, σ = [some (.ref p), some (.ref nt), y2, y3] ∧ Ex H H') ⟨none, none, rfl, Ex.refl H⟩ (fun i σ H' _ ⟨_, _, _, e⟩ => ex_t e hn) ?_ ?_
    · rintro i vv σ H1 _ hi ⟨y2, y3, rfl, e1⟩ ⟨tp, rfl, htp, rfl⟩
      rw [lk] at hi
      obtain ⟨kk, hkk, ek⟩ := ix i hi
      rw [ek]
      have hm := List.mem_of_getElem? hkk
      obtain ⟨k1, k2⟩ := hk kk hm
      have e2 := Ex.new (o := .tup [.int (i : Nat), .int kk]) htp
      refine ⟨tp, _, rfl, SqT.of upd_same, rfl, _, _, rfl, _, _, rfl, rfl, ?_⟩
      refine ⟨_, rfl, _, rfl, p, _, dx, _, _, rfl, e2 _ _ (e1 _ _ h1), T.kStack, T.nStack_steps, lk_steps .., st, rs, rfl, .inr (SqT.of (e2 _ _ (e1 _ _ h4))), _, _, rfl, rfl, kk, 0, _, rfl, ?_⟩
      rw [show (decide (0 ≤ kk) && decide (kk ≤ (rs.length : Int) - 1)) = true by
        rw [h5.len, Ka.Tr.rules_length, Bool.and_eq_true, decide_eq_true_eq, decide_eq_true_eq]; omega]
      refine ⟨true, rfl, iteF ?_⟩
      have notin : kk ∉ ks.take i := fun z => by
        obtain ⟨j, hj, ej⟩ := List.getElem_of_mem z
        rw [List.length_take] at hj
        have hj2 : j < i := by omega
        have e3 : ks[j]'(by omega) = ks[i] := by
          rw [List.getElem_take] at ej
          rw [ej]
          rw [List.getElem?_eq_getElem hi] at hkk
          exact (Option.some.inj hkk).symm
        exact absurd e3 (List.pairwise_iff_getElem.mp nd j i _ _ hj2)
      refine ⟨_, rfl, _, rfl, _, rfl, _, rfl, nt, iV ks, rfl, ex_t (e1.trans e2) hn, fun hw => ?_, fun hw q hq => ?_⟩
      · exfalso
        have z := hw.2
        rw [HT.sIx_nat] at z
        rw [lk] at z; omega
      · rw [cut_take, show (iV ks).take i = iV (ks.take i) from (List.map_take ..).symm]
        refine ⟨q, _, rfl, .inr (SqT.of upd_same), rfl, flat_ints _, ?_⟩
        rw [inV_int, decide_eq_false notin]
        exact ⟨false, rfl, iteF ⟨_, _, rfl, (e1.trans e2).trans (Ex.new hq)⟩⟩
    · rintro σ H' ⟨y2, y3, rfl, e⟩
      exact ⟨_, rfl, _, rfl, p, nt, 0, t, ks, rfl, hp.mono (NL.of e), ex_t e hn, b3, b1, b2, bf, b3, fun z H2 e2 hz => k z H2 (e.trans e2) hz⟩
/-! ### marks -/
def mkL : Mk → List V
  | .non => [.str "none", .non] | .good => [.str "good", .non] | .bad n => [.str "bad", .int n]
def MarkAt (K : PySem.W.Frag) (H : Hp) (v : V) (m : Mk) : Prop := ∃ p, v = .ref p ∧ SqT K H p (mkL m)
theorem MarkAt.mono {K : PySem.W.Frag} {H H' : Hp} {v : V} {m : Mk} (e : NL H H') (h : MarkAt K H v m) : MarkAt K H' v m := by
  obtain ⟨p, e1, h1⟩ := h
  exact ⟨p, e1, e.t h1⟩
theorem mark_non (T : Tx K mg a) {H : Hp} : MarkAt K H (.ref a.aNONE) .non := ⟨_, rfl, T.vNONE.t H⟩
theorem mark_good (T : Tx K mg a) {H : Hp} : MarkAt K H (.ref a.aGOOD) .good := ⟨_, rfl, T.vGOOD.t H⟩
def mkD : Mk → PyData
  | .non => .tuple [.str "none", .none] | .good => .tuple [.str "good", .none] | .bad n => .tuple [.str "bad", .int n]
theorem MarkAt.dp {K : PySem.W.Frag} {H : Hp} {v : V} {m : Mk} (h : MarkAt K H v m) : Dp K H v (mkD m) := by
  obtain ⟨p, rfl, h⟩ := h
  cases m with
  | non => exact .tup h (.cons (.str _) (.cons .non .nil))
  | good => exact .tup h (.cons (.str _) (.cons .non .nil))
  | bad n => exact .tup h (.cons (.str _) (.cons (.int _) .nil))
theorem mkD_shaped (m : Mk) : SeqAt.shaped (mkD m) = true := by
  cases m <;> simp [mkD, SeqAt.shaped, PyData.canLay0, PyData.canLayAll0, PyData.depth, PyData.depthAll] <;> decide +kernel
theorem mkD_eq_non (m : Mk) : PyData.eqv (mkD m) (mkD .non) = decide (m = .non) := by
  cases m with
  | non => decide +kernel
  | good => decide +kernel
  | bad n => simp only [mkD, PyData.eqv, PyData.eqvAll, show (Str.ofString "bad" == Str.ofString "none") = false by decide +kernel]; rfl
theorem mkD_eq_good (m : Mk) : PyData.eqv (mkD m) (mkD .good) = decide (m = .good) := by
  cases m with
  | non => decide +kernel
  | good => decide +kernel
  | bad n => simp only [mkD, PyData.eqv, PyData.eqvAll, show (Str.ofString "bad" == Str.ofString "good") = false by decide +kernel]; rfl
def spMarked (K : PySem.W.Frag) : Sp := fun vs H Q _ => ∃ (c : Ka.Act) (v1 v2 : V) (m b : Mk) (n : Int), vs = [actV c, v1, v2, .int n] ∧ MarkAt K H v1 m ∧ MarkAt K H v2 b ∧ ∀ v H', Ex H H' → MarkAt K H' v (Ka.marked c m b n) → Q v H'
theorem ok_marked (T : Tx K mg a) : C8.Cal P w K mg base 1 "marked" (spMarked K) [] := by
  refine cal_of T.dMarked scMarked (fun vs H Q E h => ?_) (fun f cdv A outer s H vs Q E hr h => ?_)
  · obtain ⟨_, _, _, _, _, _, rfl, _⟩ := h; rfl
  · obtain ⟨c, v1, v2, m, b, n, rfl, hm, hb, k⟩ := h
    refine ⟨_, pss_cons (ps_if (pt_cmpR op_in_seq (pv 0) (pe_tup (pa_cons (pg T.vOK) (pa_cons (pg T.vDONE) pa_nil))) (by rfl)) (pss_one (ps_ret (pe_ifExp (pt_cmpR (op_eqD hr.units) (pv 1) (pt T.vNONE) (nomark _)) (pt T.vGOOD) (pv 1)))) pss_nil)
      (pss_cons (ps_if (pt_cmpR op_in_seq (pv 0) (pe_tup (pa_cons (pg T.vBAD) (pa_cons (pg T.vDIE) pa_nil))) (by rfl)) (pss_one (ps_ret (pe_ifExp (pt_cmpR op_eq (pe_ix ix_tup (pv 1) pe_int (fun _ _ => rfl)) (pg T.vBAD) (nomark _)) (pv 1) (pe_tup (pa_cons (pg T.vBAD) (pa_cons (pv 3) pa_nil)))))) pss_nil)
      (pss_one (ps_ret (pe_ifExp (pt_cmpR op_eq (pv 0) (pg T.vRESET) (nomark _)) (pv 2) (pv 1))))), ?_⟩
    have fl : flatV (actV c) = true := by cases c <;> rfl
    refine ⟨_, rfl, by show 2 ≤ sizeLine; decide, fun q hq => ⟨q, _, rfl, .inr (SqT.of upd_same), fl, rfl, ?_⟩⟩
    have e1 : Ex H (upd H q (.tup [.str "ok", .str "done"])) := Ex.new hq
    have i1 : inV (actV c) [.str "ok", .str "done"] = (decide (c = .ok) || decide (c = .done)) := by cases c <;> first | (decide +kernel) | rfl
    show ∃ d, V.bl (inV (actV c) [.str "ok", .str "done"]) = V.bl d ∧ _
    rw [i1]
    cases h1 : (decide (c = .ok) || decide (c = .done)) with
    | true =>
      refine ⟨true, rfl, iteT ?_⟩
      have em : Ka.marked c m b n = if m = .non then .good else m := by
        rw [Bool.or_eq_true, decide_eq_true_eq, decide_eq_true_eq] at h1
        rcases h1 with rfl | rfl <;> rfl
      refine ⟨_, rfl, mkD m, mkD .non, (hm.mono (NL.of e1)).dp, (mark_non T).dp, mkD_shaped m, mkD_shaped .non, ?_⟩
      rw [mkD_eq_non]
      by_cases hz : m = .non
      · rw [if_pos hz] at em
        exact ⟨true, congrArg V.bl (decide_eq_true hz), iteT (k _ _ e1 (by rw [em]; exact mark_good T))⟩
      · rw [if_neg hz] at em
        exact ⟨false, congrArg V.bl (decide_eq_false hz), iteF ⟨_, rfl, k _ _ e1 (by rw [em]; exact hm.mono (NL.of e1))⟩⟩
    | false =>
      refine ⟨false, rfl, iteF ?_⟩
      refine ⟨_, rfl, by show 2 ≤ sizeLine; decide, fun q2 hq2 => ⟨q2, _, rfl, .inr (SqT.of upd_same), fl, rfl, ?_⟩⟩
      have e2 := e1.trans (Ex.new (o := .tup [.str "bad", .str "die"]) hq2)
      have i2 : inV (actV c) [.str "bad", .str "die"] = (decide (c = .bad) || decide (c = .die)) := by cases c <;> first | (decide +kernel) | rfl
      show ∃ d, V.bl (inV (actV c) [.str "bad", .str "die"]) = V.bl d ∧ _
      rw [i2]
      cases h2 : (decide (c = .bad) || decide (c = .die)) with
      | true =>
        refine ⟨true, rfl, iteT ?_⟩
        have em : Ka.marked c m b n = match m with | .bad k => .bad k | _ => .bad n := by
          rw [Bool.or_eq_true, decide_eq_true_eq, decide_eq_true_eq] at h2
          rcases h2 with rfl | rfl <;> cases m <;> rfl
        obtain ⟨pm, rfl, hpm⟩ := hm
        cases m with
        | non =>
          refine ⟨_, rfl, pm, _, 0, _, rfl, rfl, ex_t e2 hpm, rfl, rfl, false, by decide +kernel, iteF ⟨_, rfl, by show 2 ≤ sizeLine; decide, fun z hz => ?_⟩⟩
          exact k _ _ (e2.trans (Ex.new hz)) ⟨z, rfl, by rw [em]; exact SqT.of upd_same⟩
        | good =>
          refine ⟨_, rfl, pm, _, 0, _, rfl, rfl, ex_t e2 hpm, rfl, rfl, false, by decide +kernel, iteF ⟨_, rfl, by show 2 ≤ sizeLine; decide, fun z hz => ?_⟩⟩
          exact k _ _ (e2.trans (Ex.new hz)) ⟨z, rfl, by rw [em]; exact SqT.of upd_same⟩
        | bad j =>
          refine ⟨_, rfl, pm, _, 0, _, rfl, rfl, ex_t e2 hpm, rfl, rfl, true, by decide +kernel, iteT ⟨_, rfl, ?_⟩⟩
          exact k _ _ e2 ⟨pm, rfl, by rw [em]; exact ex_t e2 hpm⟩
      | false =>
        refine ⟨false, rfl, iteF ?_⟩
        rw [Bool.or_eq_false_iff, decide_eq_false_iff_not, decide_eq_false_iff_not] at h1 h2
        cases c with
        | reset => exact ⟨_, rfl, rfl, true, by decide +kernel, iteT ⟨_, rfl, k _ _ e2 (hb.mono (NL.of e2))⟩⟩
        | ign => exact ⟨_, rfl, rfl, false, by decide +kernel, iteF ⟨_, rfl, k _ _ e2 (hm.mono (NL.of e2))⟩⟩
        | jump j => exact ⟨_, rfl, rfl, false, rfl, iteF ⟨_, rfl, k _ _ e2 (hm.mono (NL.of e2))⟩⟩
        | ok => exact absurd rfl h1.1
        | done => exact absurd rfl h1.2
        | bad => exact absurd rfl h2.1
        | die => exact absurd rfl h2.2
end
end Kb

set_option Elab.async false
set_option linter.all false
set_option maxRecDepth 100000
set_option maxHeartbeats 8000000
/-! Run.ended. -/
namespace Kb
open PySem PySem.Spec PyProof.Rows L2 Evl
open Ka (Nm Res Mk Tr)
/-- all but the object at L stays -/
def Ek (L : Addr) (H H' : Hp) : Prop := ∀ b o, b ≠ L → H b = some o → H' b = some o
theorem Ek.refl {L : Addr} (H : Hp) : Ek L H H := fun _ _ _ h => h
theorem Ek.trans {L : Addr} {H H1 H2 : Hp} (a : Ek L H H1) (b : Ek L H1 H2) : Ek L H H2 := fun x o n h => b x o n (a x o n h)
theorem Ek.of {L : Addr} {H H' : Hp} (e : Ex H H') : Ek L H H' := fun b o _ h => e b o h
theorem Ek.put {L : Addr} {H H' : Hp} {o : HO} (e : Ek L H H') : Ek L H (upd H' L o) := fun b u n h => by rw [upd_ne n]; exact e b u n h
theorem Ek.mut {L p : Addr} {H H' : Hp} {o : HO} (e : Ek L H H') (h : H p = none) : Ek L H (upd H' p o) := fun b u n hb => by rw [upd_ne (ne_of_none hb h)]; exact e b u n hb
theorem Ek.nl {L : Addr} {H H' : Hp} {xs : List V} (e : Ek L H H') (h : H L = some (.lst xs)) : NL H H' := fun b o hb hn => e b o (fun z => by rw [z, h] at hb; cases hb; cases hn) hb
theorem Ek.ex {L : Addr} {H H' : Hp} (e : Ek L H H') (h : H L = none) : Ex H H' := fun b o hb => e b o (ne_of_none hb h) hb
theorem Ek.t {K : PySem.W.Frag} {L q : Addr} {H H' : Hp} {xs ys : List V} (e : Ek L H H') (h : H L = some (.lst xs)) (k : SqT K H q ys) : SqT K H' q ys := (e.nl h).t k
theorem u1 {n m : Nat} (h : n + 64 < m) : n + 1 < m := by omega
/-! ### answers -/
def ansK (al : Ka.Ans) : List (Key × V) := al.map fun p => (Sum.inr (nmS p.1), V.str (resS p.2))
theorem ans_val (n : Nm) : ∀ al : Ka.Ans, valV (ansK al) (Sum.inr (nmS n)) = (al.lookup n).map fun r => V.str (resS r)
  | [] => rfl
  | (m, r) :: al => by
    have ih := ans_val n al
    unfold valV ansK at ih ⊢
    rw [List.map_cons, List.find?_cons, List.lookup_cons]
    by_cases h : n = m
    · subst h; simp
    · have h1 : (n == m) = false := by simpa using h
      have h2 : ¬ (Sum.inr (nmS m) : Key) = Sum.inr (nmS n) := fun z => h (nmS_inj (Sum.inr.inj z)).symm
      rw [h1]
      simp only [h2, decide_false]
      exact ih
theorem ans_get {al : Ka.Ans} {n : Nm} (h : n ∈ al.map (·.1)) : valV (ansK al) (Sum.inr (nmS n)) = some (.str (resS (al.get n))) := by
  rw [ans_val]
  unfold Ka.Ans.get
  cases e : al.lookup n with
  | some r => rfl
  | none =>
    rw [List.lookup_eq_none_iff] at e
    obtain ⟨p, hp, rfl⟩ := List.mem_map.mp h
    have := e p hp
    simp at this
section
variable {P : Program} {w : World} {K : PySem.W.Frag} {mg : Str → Option Value} {base : Heap} {a : Ad}
/-- an inner run, stacks of depth at most d -/
def spEnded (K : PySem.W.Frag) (a : Ad) (d : Nat) : Sp := fun vs H Q _ => ∃ (x dx p ad L : Addr) (fs : List (Str × V)) (ls : List V) (s : Int) (mv : V) (t : Tr) (m : Mk) (al : Ka.Ans), vs = [.ref x, .ref p, .int s, mv] ∧ H x = some (.ins a.cRun dx fs) ∧
  fs.lookup ("told" : Str) = some (.ref ad) ∧ fs.lookup ("asked_rules" : Str) = some (.ref L) ∧ fs.lookup ("ended" : Str) = none ∧ H ad = some (.dK (ansK al)) ∧ H L = some (.lst ls) ∧ (∀ n, t.has n = true → n ∈ al.map (·.1)) ∧ StackAt a H p t ∧ MarkAt K H mv m ∧
  t.depth ≤ d ∧ t.count ≤ 12 ∧ t.len ≤ 12 ∧ t.fit ∧ ls.length + t.count ≤ 1000 ∧
  ∀ v H' ls', Ek L H H' → H' L = some (.lst ls') → ls'.length ≤ ls.length + t.count → MarkAt K H' v (Ka.run al.get t m 0 s m) → Q v H'
set_option maxHeartbeats 16000000 in
theorem ok_ended (T : Tx K mg a) : ∀ d : Nat, C8.Met P w K mg base (3 + d) a.cRun "ended" (spEnded K a d) [] := by
  intro d
  induction d with
  | zero =>
    refine met_of T.kRun T.dEnded scEnded (fun vs H Q E h => ?_) (fun f cdv A outer s H vs Q E hr h => ?_)
    · obtain ⟨_, _, _, _, _, _, _, _, _, _, _, _, rfl, _⟩ := h; rfl
    · obtain ⟨_, _, _, _, _, _, _, _, _, t, _, _, _, _, _, _, _, _, _, _, _, _, h, _⟩ := h
      have := Ka.Tr.one_le_depth t
      omega
  | succ d ih =>
    refine met_of (k := 3 + d) T.kRun T.dEnded scEnded (fun vs H Q E h => ?_) (fun f cdv A outer s H vs Q E hr h => ?_)
    · obtain ⟨_, _, _, _, _, _, _, _, _, _, _, _, rfl, _⟩ := h; rfl
    · obtain ⟨x, dx, p, ad, L, fs, ls, s0, mv0, t, m0, al, rfl, hx, ft, fa, fe, had, hL, hal, hp, hm0, hd, b1, b2, bf, bl, k⟩ := h
      have nd := scEnded.nd
      have hu := hr.units
      refine ⟨_, pss_cons (ps_par rfl nd (i := 4) (j := 5) rfl rfl (by decide) rfl rfl (pa_cons (pv 3) (pa_cons pe_int pa_nil)) (by rfl))
        (pss_cons (ps_set (i := 6) nd rfl (Or.inl rfl) (C8.pe_c (ok_firsts_of T) hr (by omega) (by rfl) (pa_cons (pv 1) (pa_cons (pv 2) pa_nil))))
        (pss_cons (ps_while PassesOwn.never (pt_cmpR op_lt (pv 5) (pe_callB call_len_seq (by rfl) T.b_len PySem.boot_len (pa_cons (pe_fld (pv 1) rfl) pa_nil)) (nomark _))
          (pss_cons (ps_par rfl nd (i := 7) (j := 8) rfl rfl (by decide) rfl rfl (pa_cons (pe_ix ix_tup (pe_fld (pv 1) rfl) (pv 5) (fun _ _ => rfl)) (pa_cons (pe_ix ix_list (pv 6) (pv 5) (fun _ _ => rfl)) pa_nil)) (by rfl))
          (pss_cons (ps_aug (i := 5) nd rfl (Or.inl rfl) pe_int ip_add)
          (pss_cons (ps_if (pt_val (pe_callB call_isi (by rfl) T.b_isinstance PyProof.Rows.boot_isinstance (pa_cons (pv 7) (pa_cons (gcls T.gStack) pa_nil))))
            (pss_cons (ps_set (i := 3) nd rfl (Or.inl rfl) (C8.pe_mt ih hr (by omega) (pv 0) (pa_cons (pv 7) (pa_cons (pv 8) (pa_cons (pv 3) pa_nil))))) (pss_one ps_continue)) pss_nil)
          (pss_cons (ps_expr (pe_bm PySem.F.plainAttrs_list PySem.F.slot_list_append PySem.F.type_list_append mt_append (pe_fld (pv 0) rfl) (pa_cons (pv 8) pa_nil)))
          (pss_cons (ps_set (i := 9) nd rfl (Or.inl rfl) (C8.pe_mt (ok_action_for T) hr (by omega) (pv 7) (pa_cons (pe_dget (u1 hr.units) (pe_fld (pv 0) rfl) (pe_fld (pv 7) rfl) (fun _ _ => rfl)) pa_nil)))
          (pss_cons (ps_set (i := 3) nd rfl (Or.inl rfl) (C8.pe_c (ok_marked T) hr (by omega) (by rfl) (pa_cons (pv 9) (pa_cons (pv 3) (pa_cons (pv 4) (pa_cons (pv 8) pa_nil))))))
          (C8.pss_cut (ps_if (PW.pt (pw_or (pt_cmpR op_eq (pv 9) (pg T.vDIE) (nomark _)) (pw_or1 (PW.pt (pw_and (pt_cmpR op_eq (pv 9) (pg T.vDONE) (nomark _)) (pw_and1 (pt_cmpR (op_eqD hu) (pv 3) (pt T.vGOOD) (nomark _)))))))) (pss_one (ps_ret (pv 3))) pss_nil)
          (pss_one (ps_if (pt_val (pe_callB call_isi (by rfl) T.b_isinstance PyProof.Rows.boot_isinstance (pa_cons (pv 9) (pa_cons (pe_bltn (v := .ty "int") (by rfl) T.b_int PyProof.Rows.boot_int rfl) pa_nil))))
            (pss_one (ps_aug (i := 5) nd rfl (Or.inl rfl) (pv 9) ip_add)) pss_nil))))))))))
        (pss_one (ps_ret (pv 3))))), ?_⟩
      refine ⟨_, rfl, _, _, rfl, ?_⟩
      refine ⟨_, rfl, _, rfl, p, s0, t, rfl, hp, by omega, fun q H1 e1 hqn hq1 => ?_⟩
      have hp0 := hp
      obtain ⟨dxs, pa, st, nm, ys, rs, h1, h2, h3, h4, h5, h6⟩ := hp0
      have hly := Ents.len _ _ h3
      have nqL : q ≠ L := fun z => by rw [z, hL] at hqn; cases hqn
      have nxL : x ≠ L := ne_of hx hL (by intro z; cases z)
      have nadL : ad ≠ L := ne_of had hL (by intro z; cases z)
      have npL : p ≠ L := ne_of h1 hL (by intro z; cases z)
      have npaL : pa ≠ L := ne_of h2 hL (by intro z; cases z)
      refine ⟨fun μ σ H' => ∃ (i : Nat) (v : Tr) (s' : Int) (mv : V) (mm : Mk) (ls' : List V) (y7 y8 y9 : Option V), σ = [some (.ref x), some (.ref p), some (.int s0), some mv, some mv0, some (.int (i : Nat)), some (.ref q), y7, y8, y9] ∧ μ = ys.length - i ∧ Ek L H H' ∧ H' L = some (.lst ls') ∧
          ls'.length + v.count ≤ ls.length + t.count ∧ H' q = some (.lst (iV (t.firsts s0))) ∧ Ents a H v (ys.drop i) ∧ (iV (t.firsts s0)).drop i = iV (v.firsts s') ∧ MarkAt K H' mv mm ∧ Ka.run al.get t m0 0 s0 m0 = Ka.run al.get v m0 0 s' mm ∧ v.count ≤ t.count ∧ v.fit ∧ v.depth ≤ t.depth ∧ (∀ n, v.has n = true → t.has n = true),
        ⟨_, 0, t, s0, mv0, m0, ls, none, none, none, rfl, rfl, Ek.of e1, e1 _ _ hL, Nat.le_refl _, hq1, h3, rfl, hm0.mono (NL.of e1), rfl, Nat.le_refl _, bf, Nat.le_refl _, fun _ h => h⟩, ?_⟩
      rintro μ σ H2 ⟨i, v, s', mv, mm, ls', y7, y8, y9, rfl, rfl, e2, hL2, hc, hq2, hv, hf, hmm, hrun, vc, vf, vd, vh⟩
      have nl2 := e2.nl hL
      refine ⟨_, rfl, _, rfl, p, _, dxs, _, _, rfl, e2 _ _ npL h1, T.kStack, T.nStack_parts, lk_parts .., pa, ys, rfl, .inr (SqT.of (e2 _ _ npaL h2)), _, _, rfl, rfl, ?_⟩
      by_cases hi : i < ys.length
      · refine ⟨true, congrArg V.bl (decide_eq_true (by omega)), iteT ?_⟩
        have hi0 := hi
        rw [List.drop_eq_getElem_cons hi] at hv
        obtain ⟨pe, en, r, ep, hen, rfl, hr2⟩ := hv.uncons
        have hfd : (iV (t.firsts s0)).getD i .non = .int s' ∧ (iV (t.firsts s0)).drop (i + 1) = iV (r.firsts (s' + (en.count : Int))) ∧ i < (iV (t.firsts s0)).length := by
          refine getD_at ?_
          rw [hf]
          cases hen with
          | rule _ _ => rfl
          | stk _ => simp only [Tr.app, Tr.firsts, Tr.count, Nat.add_zero]; rfl
        obtain ⟨hf1, hf2, hf3⟩ := hfd
        have g1 : ys[i]? = some (.ref pe) := by rw [List.getElem?_eq_getElem hi, ep]
        have g2 : (iV (t.firsts s0))[i]? = some (.int s') := by rw [List.getElem?_eq_getElem hf3, ← hf1, List.getD_eq_getElem?_getD, List.getElem?_eq_getElem hf3]; rfl
        refine ⟨_, fun σ' H' h => h, ?_⟩
        refine ⟨_, rfl, p, _, dxs, _, _, rfl, e2 _ _ npL h1, T.kStack, T.nStack_parts, lk_parts .., _, rfl, pa, ys, _, _, rfl, rfl, SqT.of (e2 _ _ npaL h2), atI_nat g1, ?_⟩
        refine ⟨_, rfl, _, rfl, q, _, _, _, rfl, rfl, SqL.of hq2, atI_nat g2, _, _, rfl, ?_⟩
        refine ⟨_, rfl, _, _, rfl, rfl, ?_⟩
        have hx2 := e2 _ _ nxL hx
        have had2 := e2 _ _ nadL had
        cases hen with
        | @stk ti _ hS =>
          simp only [Tr.app, Tr.count, Tr.depth, Tr.fit] at hc vc vd vf
          have hS2 := hS.mono nl2
          have hS0 := hS2
          obtain ⟨dxe, pae, ste, nme, yse, rse, w1, w2, w3, _⟩ := hS0
          refine ⟨_, rfl, _, _, _, _, true, rfl, .own _, ty_ins T.iStack w1, T.iStack.me, true, rfl, iteT ?_⟩
          refine ⟨_, rfl, x, dx, fs, rfl, hx2, fe, _, rfl, _, rfl, _, rfl, x, dx, pe, ad, L, fs, ls', s', mv, ti, mm, al, rfl, hx2, ft, fa, fe, had2, hL2, (fun n hn => hal n (vh n (by simp [Tr.app, Tr.has, hn]))), hS2, hmm, by omega, by omega, vf.1, vf.2.1, by omega, fun v3 H3 ls3 e3 hL3 hc3 hm3 => ?_⟩
          refine ⟨ys.length - (i + 1), by omega, i + 1, r, s' + (ti.count : Int), v3, _, ls3, _, _, _, rfl, rfl, e2.trans e3, hL3, by omega, e3 _ _ nqL hq2, hr2, by simpa [Tr.app, Tr.count] using hf2, hm3, ?_, by omega, vf.2.2, by omega, fun n hn => vh n (by simp [Tr.app, Tr.has, hn])⟩
          rw [hrun]
          rfl
        | @rule n c _ hR hcok =>
          simp only [Tr.app, Tr.count, Tr.depth, Tr.fit] at hc vc vd vf
          have hR0 := hR
          obtain ⟨dxe, te, w1, w2⟩ := hR0
          refine ⟨_, rfl, _, _, _, _, false, rfl, .own _, ty_ins T.iRule (nl2 _ _ w1 rfl), T.ruleNotStack, false, rfl, iteF ?_⟩
          -- self.asked_rules.append(number)
          refine ⟨_, rfl, x, _, dx, _, _, rfl, hx2, T.kRun, T.nRun_asked_rules, fa, .inl ⟨rfl, _, SqL.of hL2⟩, _, rfl, L, _, _, rfl, rfl, hL2, sz_lt (by omega), ?_⟩
          have e3 : Ek L H (upd H2 L (.lst (ls' ++ [.int s']))) := e2.put
          have hL3 : (upd H2 L (.lst (ls' ++ [.int s']))) L = some (.lst (ls' ++ [.int s'])) := upd_same
          have hq3 : (upd H2 L (.lst (ls' ++ [.int s']))) q = some (.lst (iV (t.firsts s0))) := by rw [upd_ne nqL]; exact hq2
          have nl23 : NL H2 (upd H2 L (.lst (ls' ++ [.int s']))) := (NL.refl H2).put hL2
          have hmm3 := hmm.mono nl23
          generalize upd H2 L (.lst (ls' ++ [.int s'])) = H3 at e3 hL3 hq3 hmm3 ⊢
          clear nl23
          have nl3 := e3.nl hL
          have hR3 := hR.mono nl3
          have hm03 := hm0.mono nl3
          -- action
          have hn : n ∈ al.map (·.1) := hal n (vh n (by simp [Tr.app, Tr.has]))
          have nfe : ¬ (("action_for" : Str) = "acts") := by decide +kernel
          have nfe2 : ¬ (("action_for" : Str) = "asks") := by decide +kernel
          have hg : DGet H3 ad (.str (nmS n)) (some (.str (resS (al.get n)))) := by rw [← ans_get hn]; exact DGet.k (k := Sum.inr (nmS n)) (e3 _ _ nadL had)
          refine ⟨_, rfl, pe, dxe, _, rfl, nl3 _ _ w1 rfl, rf_no n te nfe nfe2, _, rfl, x, _, dx, _, _, rfl, e3 _ _ nxL hx, T.kRun, T.nRun_told, ft, _, rfl, pe, _, dxe, _, _, rfl, nl3 _ _ w1 rfl, T.kRule, T.nRule_asks, rf_asks .., ad, _, rfl, hg, pe, n, c, al.get n, rfl, hR3, ?_⟩
          have hcok1 := hcok (al.get n)
          have hrun1 : Ka.run al.get t m0 0 s0 m0 = if Ka.stops (c (al.get n)) (Ka.marked (c (al.get n)) mm m0 s') = true then Ka.marked (c (al.get n)) mm m0 s' else Ka.run al.get r m0 (Ka.hop (c (al.get n))) (s' + 1) (Ka.marked (c (al.get n)) mm m0 s') := hrun
          generalize c (al.get n) = c0 at hcok1 hrun1 ⊢
          refine ⟨_, rfl, _, rfl, _, rfl, _, rfl, c0, mv, mv0, mm, m0, s', rfl, hmm3, hm03, fun v4 H4 e4 hm4 => ?_⟩
          generalize Ka.marked c0 mm m0 s' = m1 at hrun1 hm4 ⊢
          have e34 : Ek L H H4 := e3.trans (Ek.of e4)
          have hL4 := e4 _ _ hL3
          have ll : (ls' ++ [V.int s']).length = ls'.length + 1 := by rw [List.length_append]; rfl
          -- the ends
          have fin1 : Ka.stops c0 m1 = true → Q v4 H4 := fun hs => k v4 H4 _ e34 hL4 (by rw [ll]; omega) (by rw [hrun1, if_pos hs]; exact hm4)
          rw [show (Ka.hop c0) = Ka.hop c0 from rfl] at hrun1
          rw [Ka.run_skip al.get (Ka.hop c0) r] at hrun1
          have sl := Ka.skip_le (Ka.hop c0) r
          have dr1 : Ents a H (r.skip (Ka.hop c0)) (ys.drop (i + 1 + Ka.hop c0)) := by rw [← List.drop_drop]; exact Ents.skip _ _ _ hr2
          have hf4 : (iV (t.firsts s0)).drop (i + 1 + Ka.hop c0) = iV ((r.skip (Ka.hop c0)).firsts (r.skipS (Ka.hop c0) (s' + 1))) := by
            rw [← List.drop_drop, hf2, Ka.firsts_skip, iV, iV, List.map_drop]; rfl
          have hs1 : scal (actV c0) (.str "die") = true := by cases c0 <;> rfl
          have hs2 : scal (actV c0) (.str "done") = true := by cases c0 <;> rfl
          have hd1 : decide (actV c0 = .str "die") = decide (c0 = .die) := by cases c0 <;> first | (decide +kernel) | rfl
          have hd2 : decide (actV c0 = .str "done") = decide (c0 = .done) := by cases c0 <;> first | (decide +kernel) | rfl
          refine ⟨fun σ' H' => σ' = [some (.ref x), some (.ref p), some (.int s0), some v4, some mv0, some (.int ((i : Int) + 1)), some (.ref q), some (.ref pe), some (.int s'), some (actV c0)] ∧ H' = H4 ∧ Ka.stops c0 m1 = false, ?_, ?_⟩
          · refine ⟨_, rfl, hs1, ?_⟩
            rw [hd1]
            cases g1 : decide (c0 = .die) with
            | true => exact ⟨true, rfl, iteT (iteT ⟨_, rfl, fin1 (by unfold Ka.stops; rw [g1]; rfl)⟩)⟩
            | false =>
              refine ⟨false, rfl, iteF ⟨_, rfl, hs2, ?_⟩⟩
              rw [hd2]
              cases g2 : decide (c0 = .done) with
              | false => exact ⟨false, rfl, iteF (iteF ⟨rfl, rfl, by unfold Ka.stops; rw [g1, g2]; rfl⟩)⟩
              | true =>
                refine ⟨true, rfl, iteT ⟨_, rfl, mkD m1, mkD .good, hm4.dp, (mark_good T).dp, mkD_shaped m1, mkD_shaped .good, ?_⟩⟩
                rw [mkD_eq_good]
                cases g3 : decide (m1 = .good) with
                | true => exact ⟨true, rfl, iteT ⟨_, rfl, fin1 (by unfold Ka.stops; rw [g1, g2, g3]; rfl)⟩⟩
                | false => exact ⟨false, rfl, iteF ⟨rfl, rfl, by unfold Ka.stops; rw [g1, g2, g3]; rfl⟩⟩
          rintro _ _ ⟨rfl, rfl, hns⟩
          rw [if_neg (by rw [hns]; decide)] at hrun1
          have hq4 := e4 _ _ hq3
          obtain ⟨sl1, sl2, sl3, sl4⟩ := sl
          have hlen4 : (ls' ++ [V.int s']).length + (r.skip (Ka.hop c0)).count ≤ ls.length + t.count := by rw [ll]; omega
          have hvc : (r.skip (Ka.hop c0)).count ≤ t.count := by omega
          have hvd : (r.skip (Ka.hop c0)).depth ≤ t.depth := by omega
          have hvh : ∀ n, (r.skip (Ka.hop c0)).has n = true → t.has n = true := fun m hm => vh m (by simp [Tr.app, Tr.has, sl4 m hm])
          cases c0 with
          | jump j => exact ⟨_, rfl, _, _, _, _, true, rfl, .ty "int", .base (.int _), kit_ty (by decide +kernel), true, rfl, iteT ⟨_, rfl, _, rfl, _, _, rfl, rfl, ys.length - (i + 1 + j), by omega, i + 1 + j, _, _, v4, m1, _, _, _, _, rfl, rfl, e34, hL4, hlen4, hq4, dr1, hf4, hm4, hrun1, hvc, sl3 vf, hvd, hvh⟩⟩
          | _ => exact ⟨_, rfl, _, _, _, _, false, rfl, .ty "int", .base (.str _), kit_ty (by decide +kernel), false, rfl, iteF ⟨ys.length - (i + 1), by omega, i + 1, _, _, v4, m1, _, _, _, _, rfl, rfl, e34, hL4, hlen4, hq4, dr1, hf4, hm4, hrun1, hvc, sl3 vf, hvd, hvh⟩⟩
      · refine ⟨false, congrArg V.bl (decide_eq_false (by omega)), iteF ?_⟩
        rw [List.drop_eq_nil_of_le (by omega)] at hv
        have hv' : v = .nil := by
          cases v with
          | nil => rfl
          | rule _ _ _ => obtain ⟨_, _, z, _⟩ := hv; cases z
          | stk _ _ => obtain ⟨_, _, z, _⟩ := hv; cases z
        subst hv'
        refine ⟨_, rfl, k mv H2 ls' e2 hL2 (by simpa [Tr.count] using hc) ?_⟩
        rw [hrun]
        exact hmm
end
end Kb

set_option Elab.async false
set_option linter.all false
set_option maxRecDepth 100000
set_option maxHeartbeats 8000000
/-! a | b of dicts. -/
namespace Kb
open PySem PySem.Spec PyProof.Rows L2 Evl
section
variable {prog : Program} {w : World} {Kk : Type} [DecidableEq Kk] {knd : PySem.KeyKind prog w Kk} {A : Around} {E : Value → Shared → Prop} {s : Shared}
theorem dict_or {d o : Addr} {kvs more : List (Kk × Value)} {Q : Value → Shared → Prop} (hdS : (d == sysModules) = false) (hoS : (o == sysModules) = false) (hd : s.heap.DictOf knd d kvs) (ho : s.heap.DictOf knd o more) (hsz : kvs.length + more.length ≤ sizeLine)
    (h : ∀ h', h'.DictOf knd s.heap.objs.size (merged kvs more) → (∀ b u, s.heap.get? b = some u → h'.get? b = some u) → Q (.ref s.heap.objs.size) { s with heap := h' }) :
    wpAny (model prog w) A (binaryOp .BitOr (.ref d) (.ref o)) Q E s := by
  obtain ⟨ob, es, ep, hob, hc, hdat, hk, hp, hn⟩ := id hd
  obtain ⟨oo, eso, epo, hoo, hco, hdo', hko, hpo, hno⟩ := id ho
  have hes : es.size ≤ sizeLine + 1 := by
    have e1 := hp.length
    have e2 : es.toList.length = es.size := by simp
    omega
  refine wpAny_binaryOp_same hd.typeIs ho.typeIs PySem.F.fills_dict_or PySem.F.slot_dict_or (wpAny_call_entry PySem.F.slot_dict_or hd.typeIs PySem.F.entry_dict_or ?_ (PySem.F.args_dict_or_2 _ _))
  show wpAny _ _ (Builtin.Dict.dictSlotArgs "__or__" ⟨[.ref d, .ref o], []⟩ >>= _) _ _ s
  refine wpAny_bind ?_
  unfold Builtin.Dict.dictSlotArgs
  refine wpAny_bind (wpAny_notOrdered_dict hd.typeIs ?_)
  show wpAny _ _ (pure (Value.ref d, Value.ref o)) _ _ s
  refine wpAny_pure ?_
  refine wpAny_bind (m := andM (isInstance (.ref d) (.type "dict")) (isInstance (.ref o) (.type "dict"))) ?_
  unfold andM
  refine wpAny_bind (wpAny_isInstance (T := "dict") hd.typeIs PySem.F.sub_dict_dict ?_)
  refine wpAny_isInstance (T := "dict") ho.typeIs PySem.F.sub_dict_dict ?_
  simp only [Bool.not_true, Bool.false_eq_true, if_false]
  refine wpAny_bind (m := Builtin.Dict.copyOf "dict.__or__" (.ref d)) ?_
  -- behind the copy
  have hne : d ≠ s.heap.objs.size := Nat.ne_of_lt (Heap.lt_size hob)
  have hno' : s.heap.objs.size ≠ o := Nat.ne_of_gt (Heap.lt_size hoo)
  have fin : ∀ es' : Array DictEntry, es' = es → wpAny (model prog w) A.in1 (holding [Value.ref s.heap.objs.size] (Builtin.Dict.updateFrom "dict.__or__" s.heap.objs.size (.ref o) [] (.ref s.heap.objs.size)))
      (fun fin s' => ∃ v, fin = .done (.ret v) ∧ v ≠ .notImplemented ∧ Q v s') E { s with heap := s.heap.push { cls := .type "dict", data := .dict es' } } := by
    rintro es' rfl
    have hnew : (s.heap.push { cls := .type "dict", data := .dict es' }).DictOf knd s.heap.objs.size kvs := ⟨_, es', 0, Heap.get?_push_size _ rfl, ⟨rfl, rfl, rfl⟩, rfl, hk, hp, hn⟩
    have ho2 : (s.heap.push { cls := .type "dict", data := .dict es' }).DictOf knd o more := ho.push _
    refine wpAny_holding ?_
    unfold Builtin.Dict.updateFrom
    refine wpAny_bind (wpAny_typeOf (T := "dict") ho2.typeIs ?_)
    rw [if_neg (by decide)]
    refine wpAny_bind ?_
    unfold Builtin.Dict.merge
    refine wpAny_bind ?_
    · unfold Builtin.Dict.readDirectly
      refine wpAny_bind (wpAny_isInstance (T := "dict") ho2.typeIs PySem.F.sub_dict_dict ?_)
      simp only [Bool.not_true, Bool.false_eq_true, if_false]
      refine wpAny_bind (wpAny_specialOf ho2.typeIs PySem.F.slot_dict_iter.lookup (wpAny_pure ?_))
      simp only [beq_self_eq_true, if_true]
      refine wpAny_bind (wpAny_pure ?_)
      refine wpAny_mergeDict (hsz := hsz) hno' hoS hnew ho2 fun h' hd' ho' hs' => ?_
      show wpAny _ _ (Builtin.Dict.addKeywords s.heap.objs.size [] >>= _) _ _ _
      refine wpAny_bind (wpAny_pure (wpAny_pure ⟨_, rfl, (fun z => nomatch z), h h' hd' fun b u e => ?_⟩))
      exact (hs'.2 b (Nat.ne_of_lt (Heap.lt_size e))).trans (Heap.get?_push_of_some _ e)
  unfold Builtin.Dict.copyOf
  refine wpAny_bind (wpAny_pure ?_)
  unfold Builtin.Dict.showsAll
  rw [if_neg (by rw [hdS]; exact Bool.false_ne_true)]
  refine wpAny_bind (wpAny_pure ?_)
  refine wpAny_bind (wpAny_dictEntries hob hdat ?_)
  by_cases hemp : es.isEmpty = true
  · rw [if_pos hemp]
    refine wpAny_bind (wpAny_rule (wpAny_newObj_type ?_))
    exact fin #[] (Array.isEmpty_iff.mp hemp).symm
  · rw [if_neg hemp]
    refine wpAny_bind ?_
    unfold Builtin.Dict.readDirectly
    refine wpAny_bind (wpAny_isInstance (T := "dict") hd.typeIs PySem.F.sub_dict_dict ?_)
    simp only [Bool.not_true, Bool.false_eq_true, if_false]
    refine wpAny_bind (wpAny_specialOf hd.typeIs PySem.F.slot_dict_iter.lookup (wpAny_pure ?_))
    simp only [beq_self_eq_true, if_true]
    refine wpAny_bind (wpAny_entriesForEmpty (knd := knd) hob hdat hk (wpAny_newObj_type ?_ hes))
    exact fin es rfl
end
section
variable {X : Cx}
theorem op_dor : OpR X (binaryOp .BitOr) (fun x y H Q => ∃ d o kvs more, x = .ref d ∧ y = .ref o ∧ H d = some (.dK kvs) ∧ H o = some (.dK more) ∧ kvs.length + more.length ≤ 1000 ∧ ∀ p, H p = none → Q (.ref p) (upd H p (.dK (mergeK kvs more)))) := by
  intro pins s σ H x y v u Q I rx ry h
  obtain ⟨d, o, kvs, more, rfl, rfl, hd, ho, hl, q⟩ := h
  obtain rfl : v = Value.ref d := rx
  obtain rfl : u = Value.ref o := ry
  obtain ⟨z1, y1, vs1, r1, d1⟩ := dk_of I.hok hd
  obtain ⟨z2, y2, vs2, r2, d2⟩ := dk_of I.hok ho
  have big := I.big
  refine dict_or (knd := mixKind X.prog X.w) y1 y2 d1 d2 (by rw [← r1.length, ← r2.length, sizeLine_eq]; omega) fun h' dd k => ?_
  have rm := KV.merge r2 r1
  have zl : (mergeK kvs more).length ≤ sizeLine := by
    rw [rm.length]
    have := merged_length_le vs1 vs2
    rw [← r1.length, ← r2.length] at this
    rw [sizeLine_eq]; omega
  exact ⟨.ref s.heap.objs.size, _, I.laid (t' := s.toks) k (Nat.le_refl _) (dk_new zl (beq_eq_false_iff_ne.mpr (Ne.symm (Nat.ne_of_lt big))) rm dd), rfl, q _ (I.hok.fresh (Nat.le_refl _))⟩
end
end Kb

set_option Elab.async false
set_option linter.all false
set_option maxRecDepth 100000
set_option maxHeartbeats 8000000
/-! Run, outcome, need_word, all_answers. -/
namespace Kb
open PySem PySem.Spec PyProof.Rows L2 Evl
open Ka (Nm Res Mk Tr)
/-- the bounds of the trees here -/
structure Ok (t : Tr) : Prop where
  c : t.count ≤ 12
  l : t.len ≤ 12
  f : t.fit
  d : t.depth ≤ 3
def outS (b : Bool) : Str := if b then "in" else "out"
/-- the answers' dicts -/
def AnsL (H : Hp) : List Ka.Ans → List V → Prop
  | [], xs => xs = []
  | a :: l, xs => ∃ p ys, xs = .ref p :: ys ∧ H p = some (.dK (ansK a)) ∧ AnsL H l ys
theorem AnsL.len {H : Hp} : ∀ {l : List Ka.Ans} {xs : List V}, AnsL H l xs → xs.length = l.length
  | [], _, h => by rw [h]; rfl
  | _ :: l, _, ⟨p, ys, e, _, h⟩ => by rw [e, List.length_cons, List.length_cons, AnsL.len h]
theorem AnsL.mono {H H' : Hp} (e : NL H H') : ∀ {l : List Ka.Ans} {xs : List V}, AnsL H l xs → AnsL H' l xs
  | [], _, h => h
  | _ :: l, _, ⟨p, ys, e1, h1, h⟩ => ⟨p, ys, e1, e _ _ h1 rfl, AnsL.mono e h⟩
theorem AnsL.app {H : Hp} : ∀ {l m : List Ka.Ans} {xs ys : List V}, AnsL H l xs → AnsL H m ys → AnsL H (l ++ m) (xs ++ ys)
  | [], _, _, _, h, k => by rw [h]; exact k
  | _ :: l, _, _, _, ⟨p, zs, e1, h1, h⟩, k => ⟨p, zs ++ _, by rw [e1]; rfl, h1, AnsL.app h k⟩
theorem AnsL.at {H : Hp} : ∀ {l : List Ka.Ans} {xs : List V} {i : Nat} {v : V}, AnsL H l xs → xs[i]? = some v → ∃ p a, v = .ref p ∧ l[i]? = some a ∧ H p = some (.dK (ansK a))
  | _ :: _, _, 0, v, ⟨p, ys, e1, h1, h⟩, e => by subst e1; cases e; exact ⟨p, _, rfl, rfl, h1⟩
  | _ :: l, _, i + 1, v, ⟨p, ys, e1, h1, h⟩, e => by
    subst e1
    obtain ⟨q, a, q1, q2, q3⟩ := AnsL.at h (i := i) (by simpa using e)
    exact ⟨q, a, q1, by simpa using q2, q3⟩
  | [], _, i, v, h, e => by
    have h' : _ = [] := h
    rw [h'] at e; simp at e
section
variable {P : Program} {w : World} {K : PySem.W.Frag} {mg : Str → Option Value} {base : Heap} {a : Ad}
/-! ### Run -/
def spRunInit (K : PySem.W.Frag) (a : Ad) : Sp := fun vs H Q _ => ∃ (x dx p ad : Addr) (t : Tr) (al : Ka.Ans) (H0 : Hp), vs = [.ref x, .ref p, .ref ad] ∧ H x = some (.ins a.cRun dx []) ∧ H0 x = none ∧ Ex H0 H ∧ StackAt a H0 p t ∧ H0 ad = some (.dK (ansK al)) ∧
  (∀ n, t.has n = true → n ∈ al.map (·.1)) ∧ Ok t ∧ ∀ H' fs mv, Ex H0 H' → H' x = some (.ins a.cRun dx fs) → fs.lookup ("mark" : Str) = some mv → fs.lookup ("outcome" : Str) = none → MarkAt K H' mv (Ka.run al.get t .non 0 0 .non) → Q .non H'
theorem ok_run_init (T : Tx K mg a) : C8.Mak P w K mg base 7 "Run" a.cRun (spRunInit K a) [] := by
  refine mak_of T.dRunInit T.gRun scRunInit (fun vs H Q E h => ?_) (fun f cdv A outer s H vs Q E hr h => ?_)
  · obtain ⟨_, _, _, _, _, _, _, rfl, _⟩ := h; rfl
  · obtain ⟨x, dx, p, ad, t, al, H0, rfl, hx, h0, e0, hp, had, hal, ok, k⟩ := h
    refine ⟨_, pss_cons (ps_fld (pv 0) (pv 2) rfl) (pss_cons (ps_fld (pv 0) (pe_lst pa_nil) rfl) (pss_one (ps_fld (pv 0) (C8.pe_mt (ok_ended T 3) hr (by decide) (pv 0) (pa_cons (pv 1) (pa_cons pe_int (pa_cons (pt T.vNONE) pa_nil)))) rfl))), ?_⟩
    refine ⟨_, rfl, _, rfl, x, a.cRun, dx, [], rfl, hx, T.kRun, T.nRun_told, (by decide), ?_⟩
    refine ⟨Nat.zero_le _, fun L hL => ⟨_, rfl, x, a.cRun, dx, _, rfl, by rw [upd_ne (ne_of_none upd_same hL)]; exact upd_same, T.kRun, T.nRun_asked_rules, (by show 1 < 1000; decide), ?_⟩⟩
    have nxL : x ≠ L := ne_of_none upd_same hL
    have hL0 : H0 L = none := by
      cases h1 : H0 L with
      | none => rfl
      | some o => rw [upd_ne nxL.symm, e0 L o h1] at hL; cases hL
    have e3 : Ex H0 (upd (upd (upd H x (.ins a.cRun dx (putF "told" (.ref ad) []))) L (.lst [])) x (.ins a.cRun dx (putF "asked_rules" (.ref L) (putF "told" (.ref ad) [])))) := ((e0.mut h0).mut hL0).mut h0
    have hL3 : (upd (upd (upd H x (.ins a.cRun dx (putF "told" (.ref ad) []))) L (.lst [])) x (.ins a.cRun dx (putF "asked_rules" (.ref L) (putF "told" (.ref ad) [])))) L = some (.lst []) := by rw [upd_ne nxL.symm]; exact upd_same
    have hx3 : (upd (upd (upd H x (.ins a.cRun dx (putF "told" (.ref ad) []))) L (.lst [])) x (.ins a.cRun dx (putF "asked_rules" (.ref L) (putF "told" (.ref ad) [])))) x = some (.ins a.cRun dx (putF "asked_rules" (.ref L) (putF "told" (.ref ad) []))) := upd_same
    generalize upd (upd (upd H x (.ins a.cRun dx (putF "told" (.ref ad) []))) L (.lst [])) x (.ins a.cRun dx (putF "asked_rules" (.ref L) (putF "told" (.ref ad) []))) = H3 at e3 hL3 hx3 ⊢
    have l1 : (putF "asked_rules" (.ref L) (putF "told" (.ref ad) [])).lookup ("told" : Str) = some (.ref ad) := by rw [lookup_putF, if_neg (by decide +kernel), lookup_putF, if_pos rfl]
    have l2 : (putF "asked_rules" (.ref L) (putF "told" (.ref ad) [])).lookup ("asked_rules" : Str) = some (.ref L) := by rw [lookup_putF, if_pos rfl]
    have l3 : (putF "asked_rules" (.ref L) (putF "told" (.ref ad) [])).lookup ("ended" : Str) = none := by rw [lookup_putF, if_neg (by decide +kernel), lookup_putF, if_neg (by decide +kernel)]; rfl
    have l4 : (putF "asked_rules" (.ref L) (putF "told" (.ref ad) [])).lookup ("outcome" : Str) = none := by rw [lookup_putF, if_neg (by decide +kernel), lookup_putF, if_neg (by decide +kernel)]; rfl
    have l5 : (putF "asked_rules" (.ref L) (putF "told" (.ref ad) [])).length = 2 := by rfl
    generalize putF "asked_rules" (.ref L) (putF "told" (.ref ad) []) = fs at hx3 l1 l2 l3 l4 l5 ⊢
    have nl := NL.of e3
    refine ⟨_, rfl, x, dx, fs, rfl, hx3, l3, _, rfl, x, dx, p, ad, L, fs, [], 0, _, t, .non, al, rfl, hx3, l1, l2, l3, e3 _ _ had, hL3, hal, hp.mono nl, mark_non T, ok.d, ok.c, ok.l, ok.f, by show 0 + t.count ≤ 1000; have := ok.c; omega, fun v H4 ls4 e4 hL4 _ hm => ?_⟩
    have e04 : Ex H0 H4 := fun b o hb => e4 b o (ne_of_none hb hL0) (e3 b o hb)
    have hx4 := e4 _ _ nxL hx3
    refine ⟨_, rfl, x, a.cRun, dx, fs, rfl, hx4, T.kRun, T.nRun_mark, by rw [l5]; decide, ?_⟩
    refine k _ _ v (e04.mut h0) upd_same (by rw [lookup_putF, if_pos rfl]) (by rw [lookup_putF, if_neg (by decide +kernel)]; exact l4) ?_
    obtain ⟨q, rfl, hq⟩ := hm
    refine ⟨q, rfl, ?_⟩
    rcases hq with (hq | ⟨o, hq⟩) | hq
    · exact SqT.of (by rw [upd_ne (ne_of hq hx4 (by intro z; cases z))]; exact hq)
    · exact .inl (.inr ⟨o, by rw [upd_ne (ne_of hq hx4 (by intro z; cases z))]; exact hq⟩)
    · exact .inr hq
def spOutcome (K : PySem.W.Frag) (a : Ad) : Sp := fun vs H Q _ => ∃ (x dx : Addr) (fs : List (Str × V)) (mv : V) (m : Mk), vs = [.ref x] ∧ H x = some (.ins a.cRun dx fs) ∧ fs.lookup ("mark" : Str) = some mv ∧ MarkAt K H mv m ∧ Q (.str (outS (decide (m = .good)))) H
theorem ok_outcome (T : Tx K mg a) : C8.Met P w K mg base 1 a.cRun "outcome" (spOutcome K a) [] := by
  refine met_of T.kRun T.dOutcome scOutcome (fun vs H Q E h => ?_) (fun f cdv A outer s H vs Q E hr h => ?_)
  · obtain ⟨_, _, _, _, _, rfl, _⟩ := h; rfl
  · obtain ⟨x, dx, fs, mv, m, rfl, hx, hm, hk, k⟩ := h
    refine ⟨_, pss_one (ps_ret (pe_ifExp (pt_cmpR (op_eqD hr.units) (pe_fld (pv 0) rfl) (pt T.vGOOD) (nomark _)) (pg T.vIN) (pg T.vOUT))), ?_⟩
    refine ⟨_, rfl, x, _, dx, _, _, rfl, hx, T.kRun, T.nRun_mark, hm, mkD m, mkD .good, hk.dp, (mark_good T).dp, mkD_shaped m, mkD_shaped .good, ?_⟩
    rw [mkD_eq_good]
    cases h : decide (m = .good) with
    | true => rw [h] at k; exact ⟨true, rfl, iteT k⟩
    | false => rw [h] at k; exact ⟨false, rfl, iteF k⟩
/-- Run(stack, answers).outcome(): behind its two arguments -/
theorem ro_step (T : Tx K mg a) {H1 : Hp} {p ad : Addr} {t : Tr} {al : Ka.Ans} {Q : VK} (hp : StackAt a H1 p t) (had : H1 ad = some (.dK (ansK al))) (hal : ∀ n, t.has n = true → n ∈ al.map (·.1)) (ok : Ok t) (k : ∀ H', Ex H1 H' → Q (.str (outS (Ka.out al.get t))) H') :
    ∀ x dx, H1 x = none → H1 dx = none → dx ≠ x → spRunInit K a (.ref x :: ([.ref p, .ref ad] ++ [])) (upd (upd H1 dx (.own x)) x (.ins a.cRun dx []))
      (fun v H2 => v = .non ∧ ∃ z dz fz, V.ref x = .ref z ∧ H2 z = some (.ins a.cRun dz fz) ∧ fz.lookup ("outcome" : Str) = none ∧ tNil [] H2 fun vs H3 => spOutcome K a (.ref x :: (vs ++ [])) H3 Q C8.E0) C8.E0 := fun x dx hx hdx _ =>
  ⟨x, dx, p, ad, t, al, H1, rfl, upd_same, hx, ((Ex.refl H1).mut hdx).mut hx, hp, had, hal, ok, fun H' fs mv e hx' hm ho hk => ⟨rfl, x, dx, fs, rfl, hx', ho, x, dx, fs, mv, _, rfl, hx', hm, hk, k H' e⟩⟩
def spNeedWord : Sp := fun vs H Q _ => ∃ b : Bool, vs = [.str (outS b)] ∧ ∀ H', Ex H H' → Q .non H'
theorem ok_need_word (T : Tx K mg a) : C8.Cal P w K mg base 1 "need_word" spNeedWord [] := by
  refine cal_of T.dNeedWord scNeedWord (fun vs H Q E h => ?_) (fun f cdv A outer s H vs Q E hr h => ?_)
  · obtain ⟨_, rfl, _⟩ := h; rfl
  · obtain ⟨b, rfl, k⟩ := h
    refine ⟨_, pss_one (ps_if (pt_cmpR op_notIn_seq (pv 0) (pe_tup (pa_cons (pg T.vIN) (pa_cons (pg T.vOUT) pa_nil))) (by rfl)) pss_never pss_nil), ?_⟩
    refine ⟨_, rfl, by show 2 ≤ sizeLine; decide, fun q hq => ⟨q, _, rfl, .inr (SqT.of upd_same), rfl, rfl, false, ?_, iteF (k _ (Ex.new hq))⟩⟩
    cases b <;> decide +kernel
/-! ### all_answers -/
def spAllAns (K : PySem.W.Frag) : Sp := fun vs H Q _ => ∃ (q : Addr) (ns : List Nm), vs = [.ref q] ∧ SqL K H q (nms ns) ∧ ns.Nodup ∧ ns.length ≤ 3 ∧ ∀ D H' xs, Ex H H' → H D = none → H' D = some (.lst xs) → AnsL H' (Ka.answers ns) xs → Q (.ref D) H'
theorem ansK_app (al : Ka.Ans) (n : Nm) (r : Res) (h : n ∉ al.map (·.1)) : mergeK (ansK al) [(Sum.inr (nmS n), .str (resS r))] = ansK (al ++ [(n, r)]) := by
  show putK (ansK al) (Sum.inr (nmS n)) (.str (resS r)) = _
  unfold putK
  rw [if_neg, ansK, ansK, List.map_append]; rfl
  intro z
  obtain ⟨kv, hkv, e⟩ := List.any_eq_true.mp z
  obtain ⟨p, hp, rfl⟩ := List.mem_map.mp hkv
  have e2 : (Sum.inr (nmS p.1) : Key) = Sum.inr (nmS n) := of_decide_eq_true e
  exact h (List.mem_map.mpr ⟨p, hp, nmS_inj (Sum.inr.inj e2)⟩)
theorem resAll_at (j : Nat) (hj : j < 4) : ∃ r, Ka.Res.all[j]? = some r ∧ ([.str "yes", .str "no", .str "skip", .str "gone"] : List V)[j]? = some (.str (resS r)) := by
  match j, hj with
  | 0, _ => exact ⟨.yes, rfl, rfl⟩
  | 1, _ => exact ⟨.no, rfl, rfl⟩
  | 2, _ => exact ⟨.skip, rfl, rfl⟩
  | 3, _ => exact ⟨.gone, rfl, rfl⟩
set_option maxHeartbeats 16000000 in
theorem ok_all_answers (T : Tx K mg a) : C8.Cal P w K mg base 1 "all_answers" (spAllAns K) [] := by
  refine cal_of T.dAllAnswers scAllAnswers (fun vs H Q E h => ?_) (fun f cdv A outer s H vs Q E hr h => ?_)
  · obtain ⟨_, _, rfl, _⟩ := h; rfl
  · obtain ⟨q, ns, rfl, hq, nd, hl, k⟩ := h
    have nd2 := scAllAnswers.nd
    refine ⟨_, pss_cons (ps_set (i := 1) nd2 rfl (Or.inl rfl) (pe_lst (pa_cons pe_dnewK pa_nil)))
      (pss_cons (ps_for PassesOwn.never rfl (pi_list (pv 0)) (pg_name (i := 2) nd2 rfl (Or.inr rfl))
        (pss_one (ps_setLc2 (i := 1) (own := [("answers", 3), ("result", 4)]) (vs1 := [4]) (g := gName 3) (g1 := gName 4) (tt := tYes) (tt1 := tYes) (wi1 := iTup K (tC (.ref a.aRESULTS))) (te := tOp (fun x y H Q => ∃ d o kvs more, x = .ref d ∧ y = .ref o ∧ H d = some (.dK kvs) ∧ H o = some (.dK more) ∧ kvs.length + more.length ≤ 1000 ∧ ∀ p, H p = none → Q (.ref p) (upd H p (.dK (mergeK kvs more)))) (tVar 3) (tDisp [(tVar 2, tVar 4)]))
          rfl nd2 rfl rfl (sw_true rfl rfl rfl (by decide +kernel)) (pi_list (pv 1)) (blkOk_by (N := ["modules", "found", "name", "answers", "result"]) (sc := C8.fnScope sAllAnswers) (by decide +kernel)) (by decide)
          (fun _ _ _ _ _ => pg_name (i := 3) nd2 rfl (Or.inl rfl)) (fun _ _ _ _ _ => pts_nil) (fun _ _ _ _ _ => pi_tup (pt T.vRESULTS)) (fun _ _ _ _ _ => pg_name (i := 4) nd2 rfl (Or.inl rfl)) (fun _ _ _ _ _ => pts_nil)
          (fun _ _ _ _ _ => pe_op op_dor (pv 3) (pe_disp (pps_cons (pv 2) (pv 4) pps_nil) (by rfl) (by rfl) (fun z => by cases z) (by decide))))))
      (pss_one (ps_ret (pv 1)))), ?_⟩
    refine fun p0 hp0 => ⟨by show 1 ≤ sizeLine; decide, fun F hF => ?_⟩
    have e0 : Ex H (upd (upd H p0 (.dK [])) F (.lst [.ref p0])) := (Ex.new hp0).trans (Ex.new hF)
    have hFn : H F = none := fresh_back (Ex.new hp0) hF
    refine ⟨_, rfl, q, rfl, ⟨_, ex_l e0 hq⟩, ?_⟩
    have lns : (nms ns).length = ns.length := List.length_map _
    refine for_it walk_list (fun i σ H' => ∃ F xs y2 y3 y4, σ = [some (.ref q), some (.ref F), y2, y3, y4] ∧ Ex H H' ∧ H F = none ∧ H' F = some (.lst xs) ∧ AnsL H' (Ka.answers (ns.take i)) xs)
      ⟨F, _, none, none, none, rfl, e0, hFn, upd_same, p0, [], rfl, Ex.new hF _ _ upd_same, rfl⟩ (fun i σ H' _ ⟨_, _, _, _, _, _, e, _⟩ => ex_l e hq) ?_ ?_
    · rintro i v σ _ H1 hi ⟨F, xs, y2, y3, y4, rfl, e1, hFn, hF1, hA⟩ ⟨rfl, hv⟩
      rw [lns] at hi
      have hv2 : v = .str (nmS ns[i]) := by
        rw [nms, List.getElem?_map, List.getElem?_eq_getElem hi] at hv
        exact (Option.some.inj hv).symm
      subst hv2
      have hni : ns[i] ∉ ns.take i := fun z => by
        obtain ⟨j, hj, ej⟩ := List.getElem_of_mem z
        rw [List.length_take] at hj
        rw [List.getElem_take] at ej
        exact absurd ej (List.pairwise_iff_getElem.mp nd j i (by omega) hi (by omega))
      have ekey : ∀ al ∈ Ka.answers (ns.take i), ns[i] ∉ al.map (·.1) := fun al h => by rw [Ka.mem_answers.mp h]; exact hni
      have elen : ∀ al ∈ Ka.answers (ns.take i), al.length ≤ 3 := fun al h => by
        have z := congrArg List.length (Ka.mem_answers.mp h)
        rw [List.length_map, List.length_take] at z
        omega
      have wR : Walk (Itt K a.aRESULTS) 4 (fun H => SqT K H a.aRESULTS [.str "yes", .str "no", .str "skip", .str "gone"]) (YAt [.str "yes", .str "no", .str "skip", .str "gone"]) := walk_tup (xs := [.str "yes", .str "no", .str "skip", .str "gone"])
      have hlen : xs.length ≤ 16 := by
        rw [hA.len, Ka.answers_len, List.length_take]
        have : min i ns.length ≤ 2 := by omega
        calc 4 ^ min i ns.length ≤ 4 ^ 2 := Nat.pow_le_pow_right (by decide) this
          _ = 16 := rfl
      have enext : Ka.answers (ns.take (i + 1)) = Ka.more (Ka.answers (ns.take i)) ns[i] := by
        unfold Ka.answers
        rw [take_some (List.getElem?_eq_getElem hi), List.foldl_append]; rfl
      generalize ns[i] = n at *
      generalize Ka.answers (ns.take i) = fs at *
      refine ⟨_, rfl, F, rfl, ⟨_, SqL.of hF1⟩, fun D hD => ?_⟩
      have lfs : xs.length = fs.length := hA.len
      refine ⟨fun j m H2 => m = xs.length - j ∧ j ≤ xs.length ∧ Ex H1 H2 ∧ ∃ acc, H2 D = some (.lst acc) ∧ AnsL H2 (Ka.more (fs.take j) n) acc, ⟨_, rfl, Nat.zero_le _, Ex.new hD, [], upd_same, rfl⟩, ?_⟩
      rintro j m H2 ⟨rfl, hj, e2, acc, hD2, hacc⟩
      have sF : SqL K H2 F xs := ex_l e2 (SqL.of hF1)
      by_cases hlt : j < xs.length
      · refine .inr ⟨walk_list.goes j H2 hlt sF, fun H3 => j + 1 ≤ xs.length ∧ Ex H1 H3 ∧ ∃ acc, H3 D = some (.lst acc) ∧ AnsL H3 (Ka.more (fs.take (j + 1)) n) acc, fun H3 h3 => ⟨xs.length - (j + 1), by omega, rfl, h3⟩, fun x H3 hy => ?_⟩
        obtain ⟨rfl, hx⟩ := walk_list.yields j H2 x H3 hlt sF hy
        obtain ⟨pa, al, rfl, hal, hpa⟩ := hA.at hx
        have hal0 : al ∈ fs := List.mem_of_getElem? hal
        refine ⟨rfl, _, rfl, ⟨_, T.vRESULTS.t _⟩, ?_⟩
        have lacc : (Ka.more (fs.take j) n).length ≤ 64 := by rw [Ka.more_len, List.length_take]; omega
        refine ⟨fun r k H4 => k = 4 - r ∧ r ≤ 4 ∧ Ex H1 H4 ∧ ∃ acc, H4 D = some (.lst acc) ∧ AnsL H4 (Ka.more (fs.take j) n ++ (Ka.Res.all.take r).map (fun z => al ++ [(n, z)])) acc, ⟨_, rfl, Nat.zero_le _, e2, acc, hD2, by simpa using hacc⟩, ?_⟩
        rintro r k' H4 ⟨rfl, hr4, e4, acc4, hD4, hacc4⟩
        have sR := T.vRESULTS.t H4
        by_cases hr : r < 4
        · refine .inr ⟨wR.goes r H4 hr sR, fun H5 => r + 1 ≤ 4 ∧ Ex H1 H5 ∧ ∃ acc, H5 D = some (.lst acc) ∧ AnsL H5 (Ka.more (fs.take j) n ++ (Ka.Res.all.take (r + 1)).map (fun z => al ++ [(n, z)])) acc, fun H5 h5 => ⟨4 - (r + 1), by omega, rfl, h5⟩, fun y H5 hy5 => ?_⟩
          obtain ⟨rfl, hy2⟩ := wR.yields r H4 y H5 hr sR hy5
          obtain ⟨rr, hr1, hr2⟩ := resAll_at r hr
          rw [hr2] at hy2
          cases hy2
          refine ⟨rfl, _, rfl, fun p1 hp1 => ⟨_, rfl, _, rfl, upd_same, [(Sum.inr (nmS n), .str (resS rr))], rfl, by show 1 ≤ 15; decide, ?_⟩⟩
          have e5 : Ex H5 (upd (upd H5 p1 (.dK [])) p1 (.dK (mergeK [] [(Sum.inr (nmS n), V.str (resS rr))]))) := (Ex.new hp1).mut hp1
          refine ⟨pa, p1, ansK al, [(Sum.inr (nmS n), .str (resS rr))], rfl, rfl, e5 _ _ (e4 _ _ hpa), upd_same, ?_, fun p2 hp2 => ?_⟩
          · have := elen al hal0
            rw [ansK, List.length_map]; simp; omega
          have e6 := e5.trans (Ex.new (o := .dK (mergeK (ansK al) [(Sum.inr (nmS n), .str (resS rr))])) hp2)
          refine ⟨acc4, e6 _ _ hD4, ?_, by omega, (e4.trans e6).mut hD, acc4 ++ [.ref p2], upd_same, ?_⟩
          · rw [hacc4.len, List.length_append, List.length_map, List.length_take]
            exact sz_lt (by omega)
          · have nl : NL H5 (upd (upd (upd (upd H5 p1 (.dK [])) p1 (.dK (mergeK [] [(Sum.inr (nmS n), V.str (resS rr))]))) p2 (.dK (mergeK (ansK al) [(Sum.inr (nmS n), .str (resS rr))]))) D (.lst (acc4 ++ [.ref p2]))) := (NL.of e6).put (e6 _ _ hD4)
            have ne : p2 ≠ D := fun z => by rw [z, e5 _ _ hD4] at hp2; cases hp2
            rw [take_some hr1, List.map_append, ← List.append_assoc]
            exact AnsL.app (hacc4.mono nl) ⟨p2, [], rfl, by rw [upd_ne ne, upd_same, ansK_app al n rr (ekey al hal0)], rfl⟩
        · have e : r = 4 := by omega
          subst e
          refine .inl ⟨wR.stops H4 sR, by omega, e4, acc4, hD4, ?_⟩
          rw [take_some hal]
          unfold Ka.more
          rw [List.flatMap_append]
          unfold Ka.more at hacc4
          simpa [Ka.Res.all] using hacc4
      · have e : j = xs.length := by omega
        subst e
        refine .inl ⟨walk_list.stops H2 sF, D, acc, _, _, _, rfl, e1.trans e2, fresh_back e1 hD, hD2, ?_⟩
        rw [enext]
        rw [lfs, List.take_length] at hacc
        exact hacc
    · rintro σ H' ⟨F, xs, y2, y3, y4, rfl, e, hFn, hF', hA⟩
      rw [lns, List.take_length] at hA
      exact ⟨_, rfl, k F H' xs e hFn hF' hA⟩
end
end Kb

set_option Elab.async false
set_option linter.all false
set_option maxRecDepth 100000
set_option maxHeartbeats 8000000
/-! need_answers, both_outcomes, first_difference, alike. -/
namespace Kb
open PySem PySem.Spec PyProof.Rows L2 Evl
open Ka (Nm Res Mk Tr)
theorem inV_str (k : Str) : ∀ ks : List Str, inV (.str k) (ks.map V.str) = decide (k ∈ ks)
  | [] => rfl
  | j :: ks => by
    have e : inV (.str k) ((j :: ks).map V.str) = (eqV (.str j) (.str k) || inV (.str k) (ks.map V.str)) := rfl
    have e2 : eqV (.str j) (.str k) = (j == k) := rfl
    rw [e, inV_str k ks, e2, Bool.eq_iff_iff]
    simp only [Bool.or_eq_true, decide_eq_true_eq, List.mem_cons, beq_iff_eq]
    exact or_congr eq_comm Iff.rfl
theorem inV_nm (n : Nm) (ns : List Nm) : inV (.str (nmS n)) (nms ns) = decide (n ∈ ns) := by
  rw [nms_eq, inV_str, Bool.eq_iff_iff, decide_eq_true_eq, decide_eq_true_eq]
  constructor
  · intro h
    obtain ⟨m, hm, e⟩ := List.mem_map.mp h
    rw [← nmS_inj e]; exact hm
  · intro h; exact List.mem_map.mpr ⟨n, h, rfl⟩
theorem flat_nms (ns : List Nm) : (nms ns).all flatV = true := by
  unfold nms
  rw [List.all_map, List.all_eq_true]
  intro x _; rfl
theorem ans_keys (al : Ka.Ans) : ((ansK al).map fun kv => kV kv.1) = nms (al.map (·.1)) := by
  unfold ansK nms
  rw [List.map_map, List.map_map]; rfl
theorem res_in (r : Res) : inV (.str (resS r)) [.str "yes", .str "no", .str "skip", .str "gone"] = true := by cases r <;> decide +kernel
theorem mem_sel {n : Nm} {ns : List Nm} : n ∈ sel ns ↔ n ∈ ns := by simp [sel, Nm.mem_all]
theorem sel_len (ns : List Nm) : (sel ns).length ≤ 3 := List.length_filter_le _ _
theorem sel_nodup (ns : List Nm) : (sel ns).Nodup := List.Pairwise.filter _ (by decide)
theorem sel_congr {ns ms : List Nm} (h : ∀ n, n ∈ ns ↔ n ∈ ms) : sel ns = sel ms := List.filter_congr fun n _ => by simp [h n]
theorem sel_both (s t : Tr) : sel (Ka.names s ++ Ka.names t) = Ka.both s t := List.filter_congr fun n _ => by
  rw [Bool.eq_iff_iff, decide_eq_true_eq, List.mem_append, Ka.mem_names, Ka.mem_names, Bool.or_eq_true]
section
variable {P : Program} {w : World} {K : PySem.W.Frag} {mg : Str → Option Value} {base : Heap} {a : Ad}
def spNeedAns (K : PySem.W.Frag) : Sp := fun vs H Q _ => ∃ (q ad : Addr) (ns : List Nm) (al : Ka.Ans), vs = [.ref q, .ref ad, .bl true] ∧ H q = some (.lst (nms ns)) ∧ H ad = some (.dK (ansK al)) ∧ al.map (·.1) = ns ∧ ns.length ≤ 3 ∧ ∀ H', Ex H H' → Q .non H'
theorem ok_need_answers (T : Tx K mg a) : C8.Cal P w K mg base 1 "need_answers" (spNeedAns K) [] := by
  refine cal_of T.dNeedAnswers scNeedAnswers (fun vs H Q E h => ?_) (fun f cdv A outer s H vs Q E hr h => ?_)
  · obtain ⟨_, _, _, _, rfl, _⟩ := h; rfl
  · obtain ⟨q, ad, ns, al, rfl, hq, had, hal, hl, k⟩ := h
    have nd := scNeedAnswers.nd
    refine ⟨_, pss_one (ps_for PassesOwn.never rfl (pi_list (pe_names rfl hr.units (by rfl) T.b_sorted (by rfl) T.b_set (pe_op op_cat (pe_callTy call_list_of (by rfl) T.b_list (by decide +kernel) (pa_cons (pv 0) pa_nil)) (pe_callTy (call_listD rfl) (by rfl) T.b_list (by decide +kernel) (pa_cons (pv 1) pa_nil))))) (pg_name (i := 3) nd rfl (Or.inl rfl))
      (pss_cons (ps_if (PW.pt (pw_or (pt_cmpR op_notIn_seq (pv 3) (pv 0) (by rfl)) (pw_or1 (PW.pt (pw_and (pt_cmp (pc_dnotin (u1 hr.units) (pv 3) (pv 1))) (pw_and1 (pt_val (pv 2)))))))) pss_never pss_nil)
      (pss_one (ps_if (PW.pt (pw_and (pt_cmp (pc_din (u1 hr.units) (pv 3) (pv 1))) (pw_and1 (pt_cmpR op_notIn_seq (pe_dget (u1 hr.units) (pv 1) (pv 3) (fun _ _ => rfl)) (pt T.vRESULTS) (by rfl))))) pss_never pss_nil)))), ?_⟩
    refine ⟨_, rfl, q, nms ns, rfl, .inl (SqL.of hq), fun l1 hl1 => ⟨_, rfl, ad, ansK al, rfl, .inl (Ex.new hl1 _ _ had), fun l2 hl2 => ?_⟩⟩
    have e1 : Ex H (upd (upd H l1 (.lst (nms ns))) l2 (.lst ((ansK al).map fun kv => kV kv.1))) := (Ex.new hl1).trans (Ex.new hl2)
    have g1 : (upd (upd H l1 (.lst (nms ns))) l2 (.lst ((ansK al).map fun kv => kV kv.1))) l1 = some (.lst (nms ns)) := Ex.new hl2 _ _ upd_same
    have g2 : (upd (upd H l1 (.lst (nms ns))) l2 (.lst ((ansK al).map fun kv => kV kv.1))) l2 = some (.lst (nms ns)) := by rw [upd_same, ans_keys, hal]
    generalize upd (upd H l1 (.lst (nms ns))) l2 (.lst ((ansK al).map fun kv => kV kv.1)) = H1 at e1 g1 g2 ⊢
    have ln : (nms ns).length ≤ 3 := by rw [nms, List.length_map]; exact hl
    refine ⟨l1, l2, nms ns, nms ns, rfl, rfl, g1, g2, sz_of (by omega), fun l3 hl3 => ⟨l3, ns ++ ns, rfl, .inl (SqL.of (by rw [upd_same, nms, nms, List.map_append])), by rw [List.length_append]; omega, fun H2 p e2 hp => ?_⟩⟩
    have e3 : Ex H (upd H2 p (.lst (nms (sel (ns ++ ns))))) := ((e1.trans (Ex.new hl3)).trans e2).trans (Ex.new hp)
    refine ⟨p, rfl, ⟨_, SqL.of upd_same⟩, ?_⟩
    have hp1 : (upd H2 p (.lst (nms (sel (ns ++ ns))))) p = some (.lst (nms (sel (ns ++ ns)))) := upd_same
    generalize upd H2 p (.lst (nms (sel (ns ++ ns)))) = H3 at e3 hp1 ⊢
    refine for_it walk_list (fun i σ H' => ∃ y, σ = [some (.ref q), some (.ref ad), some (.bl true), y] ∧ Ex H3 H') ⟨none, rfl, Ex.refl _⟩ (fun i σ H' _ ⟨_, _, e⟩ => ex_l e (SqL.of hp1)) ?_ ?_
    · rintro i v σ _ H4 hi ⟨y, rfl, e4⟩ ⟨rfl, hv⟩
      obtain ⟨n, hn, rfl⟩ : ∃ n, n ∈ sel (ns ++ ns) ∧ v = .str (nmS n) := by
        have z := List.mem_of_getElem? hv
        obtain ⟨n, hn, e⟩ := List.mem_map.mp z
        exact ⟨n, hn, e.symm⟩
      have hn2 : n ∈ ns := by
        rcases List.mem_append.mp (mem_sel.mp hn) with z | z <;> exact z
      have had4 := e4 _ _ (e3 _ _ had)
      have hg : DGet H4 ad (.str (nmS n)) (some (.str (resS (al.get n)))) := by rw [← ans_get (by rw [hal]; exact hn2)]; exact DGet.k (k := Sum.inr (nmS n)) had4
      refine ⟨_, rfl, _, rfl, q, _, rfl, .inl (SqL.of (e4 _ _ (e3 _ _ hq))), rfl, flat_nms ns, ?_⟩
      rw [inV_nm, decide_eq_true hn2]
      refine ⟨false, rfl, iteF ⟨_, rfl, _, rfl, ad, _, rfl, hg, false, rfl, iteF (iteF ?_)⟩⟩
      refine ⟨_, rfl, _, rfl, ad, _, rfl, hg, true, rfl, iteT ⟨_, rfl, _, rfl, ad, _, rfl, hg, _, _, rfl, .inr (T.vRESULTS.t H4), rfl, rfl, ?_⟩⟩
      rw [res_in]
      exact ⟨false, rfl, iteF ⟨_, rfl, e4⟩⟩
    · rintro σ H' ⟨y, rfl, e⟩
      exact k H' (e3.trans e)
/-! ### the outcomes of two -/
def BothL (H : Hp) (s t : Tr) : List Ka.Ans → List V → Prop
  | [], xs => xs = []
  | al :: l, xs => ∃ q pa ys, xs = .ref q :: ys ∧ H q = some (.tup [.ref pa, .str (outS (Ka.out al.get s)), .str (outS (Ka.out al.get t))]) ∧ H pa = some (.dK (ansK al)) ∧ BothL H s t l ys
theorem BothL.len {H : Hp} {s t : Tr} : ∀ {l : List Ka.Ans} {xs : List V}, BothL H s t l xs → xs.length = l.length
  | [], _, h => by rw [h]; rfl
  | _ :: l, _, ⟨q, pa, ys, e, _, _, h⟩ => by rw [e, List.length_cons, List.length_cons, BothL.len h]
theorem BothL.mono {H H' : Hp} {s t : Tr} (e : NL H H') : ∀ {l : List Ka.Ans} {xs : List V}, BothL H s t l xs → BothL H' s t l xs
  | [], _, h => h
  | _ :: l, _, ⟨q, pa, ys, e1, h1, h2, h⟩ => ⟨q, pa, ys, e1, e _ _ h1 rfl, e _ _ h2 rfl, BothL.mono e h⟩
/-- one of them, at its place -/
def BothE (H : Hp) (s t : Tr) (al : Ka.Ans) (v : V) : Prop := ∃ q pa, v = .ref q ∧ H q = some (.tup [.ref pa, .str (outS (Ka.out al.get s)), .str (outS (Ka.out al.get t))]) ∧ H pa = some (.dK (ansK al))
theorem BothE.mono {H H' : Hp} {s t : Tr} {al : Ka.Ans} {v : V} (e : NL H H') (h : BothE H s t al v) : BothE H' s t al v := by
  obtain ⟨q, pa, e1, h1, h2⟩ := h
  exact ⟨q, pa, e1, e _ _ h1 rfl, e _ _ h2 rfl⟩
theorem bothL_of {H : Hp} {s t : Tr} : ∀ {l : List Ka.Ans} {xs : List V}, xs.length = l.length → (∀ (i : Nat) v, xs[i]? = some v → ∃ al, l[i]? = some al ∧ BothE H s t al v) → BothL H s t l xs
  | [], xs, h, _ => List.eq_nil_of_length_eq_zero h
  | al :: l, x :: xs, h, k => by
    obtain ⟨al', e, q, pa, e1, h1, h2⟩ := k 0 x rfl
    cases e
    exact ⟨q, pa, xs, by rw [e1], h1, h2, bothL_of (by simpa using h) fun i v hv => by simpa using k (i + 1) v (by simpa using hv)⟩
def spBoth (K : PySem.W.Frag) (a : Ad) : Sp := fun vs H Q _ => ∃ (p q : Addr) (s t : Tr), vs = [.ref p, .ref q] ∧ StackAt a H p s ∧ StackAt a H q t ∧ Ok s ∧ Ok t ∧ ∀ D xs H', Ex H H' → H' D = some (.lst xs) → BothL H' s t (Ka.answers (Ka.both s t)) xs → Q (.ref D) H'
set_option maxHeartbeats 16000000 in
theorem ok_both (T : Tx K mg a) : C8.Cal P w K mg base 9 "both_outcomes" (spBoth K a) [] := by
  refine cal_of T.dBothOut scBothOut (fun vs H Q E h => ?_) (fun f cdv A outer s H vs Q E hr h => ?_)
  · obtain ⟨_, _, _, _, rfl, _⟩ := h; rfl
  · obtain ⟨p, q, s1, t1, rfl, hp, hq, ok1, ok2, k⟩ := h
    have nd := scBothOut.nd
    refine ⟨_, pss_cons (ps_set (i := 2) nd rfl (Or.inl rfl) (pe_names rfl hr.units (by rfl) T.b_sorted (by rfl) T.b_set (pe_op op_catA (pe_fld (pv 0) rfl) (pe_fld (pv 1) rfl))))
      (pss_cons (ps_if (pt_cmpR op_gt (pe_callB call_len_seq (by rfl) T.b_len PySem.boot_len (pa_cons (pv 2) pa_nil)) (pg T.vMOST_MODULES_stacks) (nomark _)) pss_never pss_nil)
      (pss_one (ps_ret (pe_lc (own := [("answers", 3)]) (g := gName 3) (tt := tYes) (te := tTup (tCons (tVar 3) (tCons (tMeth a.cRun "outcome" (spOutcome K a) [] C8.E0 (tMake a.cRun (spRunInit K a) [] C8.E0 (tCons (tVar 0) (tCons (tVar 3) tNil))) tNil) (tCons (tMeth a.cRun "outcome" (spOutcome K a) [] C8.E0 (tMake a.cRun (spRunInit K a) [] C8.E0 (tCons (tVar 1) (tCons (tVar 3) tNil))) tNil) tNil))))
        rfl nd (pi_list (C8.pe_c (ok_all_answers T) hr (by decide) (by rfl) (pa_cons (pv 2) pa_nil))) (blkOk_by (N := ["one", "other", "names", "answers"]) (sc := C8.fnScope sBothOut) (by decide +kernel))
        (fun _ _ _ _ _ => pg_name (i := 3) nd rfl (Or.inl rfl)) (fun _ _ _ _ _ => pts_nil)
        (fun _ _ _ _ _ => pe_tup (pa_cons (pv 3) (pa_cons (C8.pe_mt0 (ok_outcome T) hr (by decide) (C8.pe_mk (ok_run_init T) hr (by decide) (by rfl) (pa_cons (pv 0) (pa_cons (pv 3) pa_nil)))) (pa_cons (C8.pe_mt0 (ok_outcome T) hr (by decide) (C8.pe_mk (ok_run_init T) hr (by decide) (by rfl) (pa_cons (pv 1) (pa_cons (pv 3) pa_nil)))) pa_nil)))))))), ?_⟩
    have hp0 := hp
    have hq0 := hq
    obtain ⟨dx, pa, st, nm, ys, rs, h1, h2, h3, h4, h5, h6⟩ := hp0
    obtain ⟨dx', pa', st', nm', ys', rs', h1', h2', h3', h4', h5', h6'⟩ := hq0
    have l1 : (nms (Ka.names s1)).length ≤ 3 := by rw [nms, List.length_map]; exact Ka.names_len _
    have l2 : (nms (Ka.names t1)).length ≤ 3 := by rw [nms, List.length_map]; exact Ka.names_len _
    refine ⟨_, rfl, p, _, dx, _, _, rfl, h1, T.kStack, T.nStack_names, lk_names .., _, rfl, q, _, dx', _, _, rfl, h1', T.kStack, T.nStack_names, lk_names .., ?_⟩
    refine cat_step h6 h6' (by omega) fun z H1 e1 hz => ?_
    rw [nms, nms, ← List.map_append] at hz
    refine ⟨z, Ka.names s1 ++ Ka.names t1, rfl, .inr (SqT.of hz), ?_, fun H2 pn e2 hpn => ?_⟩
    · rw [List.length_append]
      rw [nms, List.length_map] at l1 l2
      omega
    rw [sel_both]
    have e3 : Ex H (upd H2 pn (.lst (nms (Ka.both s1 t1)))) := (e1.trans e2).trans (Ex.new hpn)
    have hn3 : (upd H2 pn (.lst (nms (Ka.both s1 t1)))) pn = some (.lst (nms (Ka.both s1 t1))) := upd_same
    generalize upd H2 pn (.lst (nms (Ka.both s1 t1))) = H3 at e3 hn3 ⊢
    have lb : (nms (Ka.both s1 t1)).length ≤ 3 := by rw [nms, List.length_map]; exact Ka.both_len _ _
    refine ⟨_, rfl, pn, _, rfl, .inl (SqL.of hn3), _, _, rfl, rfl, false, congrArg V.bl (decide_eq_false (by omega)), iteF ?_⟩
    refine ⟨_, rfl, pn, Ka.both s1 t1, rfl, SqL.of hn3, Ka.both_nodup _ _, Ka.both_len _ _, fun D H4 xs e4 hDn hD hA => ⟨D, rfl, ⟨_, SqL.of hD⟩, fun D2 hD2 => ?_⟩⟩
    have e34 := e3.trans e4
    have lx : xs.length ≤ 64 := by
      rw [hA.len, Ka.answers_len]
      calc 4 ^ (Ka.both s1 t1).length ≤ 4 ^ 3 := Nat.pow_le_pow_right (by decide) (Ka.both_len _ _)
        _ = 64 := rfl
    refine lc_all walk_list (by omega) hD2 (fun i v H => ∃ al, (Ka.answers (Ka.both s1 t1))[i]? = some al ∧ BothE H s1 t1 al v) (fun i v H H' e ⟨al, g1, g2⟩ => ⟨al, g1, g2.mono e⟩) (fun H e => ex_l e (SqL.of hD)) ?_ ?_
    · rintro i x _ H5 hi e5 ⟨rfl, hx⟩ R hR
      obtain ⟨pa, al, rfl, hal, hpa⟩ := hA.at hx
      have e45 := e34.trans e5
      have keys : al.map (·.1) = Ka.both s1 t1 := Ka.mem_answers.mp (List.mem_of_getElem? hal)
      have k1 : ∀ n, s1.has n = true → n ∈ al.map (·.1) := fun n hn => by rw [keys]; exact Ka.mem_both.mpr (.inl hn)
      have k2 : ∀ n, t1.has n = true → n ∈ al.map (·.1) := fun n hn => by rw [keys]; exact Ka.mem_both.mpr (.inr hn)
      refine ⟨rfl, _, rfl, _, rfl, _, rfl, ro_step T (hp.mono (NL.of e45)) (e5 _ _ hpa) k1 ok1 fun H6 e6 => ?_⟩
      refine ⟨_, rfl, _, rfl, ro_step T (hq.mono (NL.of (e45.trans e6))) (e6 _ _ (e5 _ _ hpa)) k2 ok2 fun H7 e7 => ?_⟩
      refine ⟨by show 3 ≤ sizeLine; decide, fun w hw => ?_⟩
      exact hR _ _ ((e6.trans e7).trans (Ex.new hw)) ⟨al, hal, w, pa, rfl, upd_same, Ex.new hw _ _ (e7 _ _ (e6 _ _ (e5 _ _ hpa)))⟩
    · intro zs H5 e5 hz5 ln5 hy5
      exact k D2 zs H5 (e34.trans e5) hz5 (bothL_of (by rw [ln5, hA.len]) hy5)
end
end Kb

set_option Elab.async false
set_option linter.all false
set_option maxRecDepth 100000
set_option maxHeartbeats 8000000
/-! first_difference, alike, subsets, least_kept, least_stack. -/
namespace Kb
open PySem PySem.Spec PyProof.Rows L2 Evl
open Ka (Nm Res Mk Tr)
section
variable {P : Program} {w : World} {K : PySem.W.Frag} {mg : Str → Option Value} {base : Heap} {a : Ad}
theorem out_ne (b c : Bool) : decide (V.str (outS b) = .str (outS c)) = decide (b = c) := by cases b <;> cases c <;> decide +kernel
theorem BothL.drop {H : Hp} {s t : Tr} : ∀ {l : List Ka.Ans} {xs : List V}, BothL H s t l xs → ∀ i, BothL H s t (l.drop i) (xs.drop i)
  | [], _, h, i => by
    have e : _ = [] := h
    rw [e, List.drop_nil, List.drop_nil]; exact rfl
  | al :: l, xs, h, 0 => h
  | al :: l, _, ⟨q, pa, ys, e, _, _, h⟩, i + 1 => by rw [e]; exact BothL.drop h i
def spFirst (a : Ad) : Sp := fun vs H Q _ => ∃ (p q : Addr) (s t : Tr), vs = [.ref p, .ref q] ∧ StackAt a H p s ∧ StackAt a H q t ∧ Ok s ∧ Ok t ∧
  (Ka.diff s t = none → ∀ H', Ex H H' → Q .non H') ∧ ∀ al b, Ka.diff s t = some (al, b) → ∀ z pa H', Ex H H' → H' z = some (.tup [.ref pa, .str (outS b)]) → H' pa = some (.dK (ansK al)) → Q (.ref z) H'
theorem ok_first (T : Tx K mg a) : C8.Cal P w K mg base 10 "first_difference" (spFirst a) [] := by
  refine cal_of T.dFirstDiff scFirstDiff (fun vs H Q E h => ?_) (fun f cdv A outer s H vs Q E hr h => ?_)
  · obtain ⟨_, _, _, _, rfl, _⟩ := h; rfl
  · obtain ⟨p, q, s1, t1, rfl, hp, hq, ok1, ok2, k0, k1⟩ := h
    have nd := scFirstDiff.nd
    refine ⟨_, pss_cons (ps_for PassesOwn.never rfl (pi_list (C8.pe_c (ok_both T) hr (by decide) (by rfl) (pa_cons (pv 0) (pa_cons (pv 1) pa_nil)))) (pg_tup rfl (pgs_cons (pg_name (i := 2) nd rfl (Or.inl rfl)) (pgs_cons (pg_name (i := 3) nd rfl (Or.inl rfl)) (pgs_cons (pg_name (i := 4) nd rfl (Or.inl rfl)) pgs_nil))))
        (pss_one (ps_if (pt_cmpR op_ne (pv 3) (pv 4) (nomark _)) (pss_one (ps_ret (pe_tup (pa_cons (pv 2) (pa_cons (pv 3) pa_nil))))) pss_nil)))
      (pss_one (ps_ret pe_non)), ?_⟩
    refine ⟨_, rfl, _, rfl, p, q, s1, t1, rfl, hp, hq, ok1, ok2, fun D xs H1 e1 hD hB => ⟨D, rfl, ⟨_, SqL.of hD⟩, ?_⟩⟩
    refine for_it walk_list (fun i σ H' => ∃ y2 y3 y4, σ = [some (.ref p), some (.ref q), y2, y3, y4] ∧ Ex H1 H' ∧ Ka.diff s1 t1 = Ka.firstDiff s1 t1 ((Ka.answers (Ka.both s1 t1)).drop i)) ⟨none, none, none, rfl, Ex.refl _, rfl⟩ (fun i σ H' _ ⟨_, _, _, _, e, _⟩ => ex_l e (SqL.of hD)) ?_ ?_
    · rintro i v σ _ H2 hi ⟨y2, y3, y4, rfl, e2, hd⟩ ⟨rfl, hv⟩
      have hB2 := hB.drop i
      rw [List.drop_eq_getElem_cons hi] at hB2
      have ev : xs[i] = v := by rw [List.getElem?_eq_getElem hi] at hv; exact Option.some.inj hv
      rw [ev] at hB2
      cases hl : (Ka.answers (Ka.both s1 t1)).drop i with
      | nil => rw [hl] at hB2; cases hB2
      | cons al rest =>
        rw [hl] at hB2 hd
        obtain ⟨z, pa, ys, e3, g1, g2, _⟩ := hB2
        cases e3
        have er : (Ka.answers (Ka.both s1 t1)).drop (i + 1) = rest := by rw [← List.drop_drop, hl]; rfl
        refine ⟨z, _, rfl, SqT.of (e2 _ _ g1), rfl, _, _, rfl, _, _, rfl, _, _, rfl, rfl, ?_⟩
        refine ⟨_, rfl, _, rfl, rfl, ?_⟩
        rw [out_ne]
        by_cases ho : Ka.out al.get s1 = Ka.out al.get t1
        · rw [decide_eq_true ho]
          refine ⟨false, rfl, iteF ⟨_, _, _, rfl, e2, ?_⟩⟩
          rw [hd, er]
          simp only [Ka.firstDiff, if_pos ho]
        · rw [decide_eq_false ho]
          refine ⟨true, rfl, iteT ⟨_, rfl, _, rfl, by show 2 ≤ sizeLine; decide, fun w hw => ?_⟩⟩
          refine k1 al _ ?_ w pa _ ((e1.trans e2).trans (Ex.new hw)) upd_same (Ex.new hw _ _ (e2 _ _ g2))
          rw [hd]
          simp only [Ka.firstDiff, if_neg ho]
    · rintro σ H' ⟨y2, y3, y4, rfl, e, hd⟩
      refine k0 ?_ H' (e1.trans e)
      rw [hd, List.drop_eq_nil_of_le (by rw [hB.len]; exact Nat.le_refl _)]; rfl
def spAlike (a : Ad) : Sp := fun vs H Q _ => ∃ (p q : Addr) (s t : Tr), vs = [.ref p, .ref q] ∧ StackAt a H p s ∧ StackAt a H q t ∧ Ok s ∧ Ok t ∧ ∀ b H', Ex H H' → (b = true ↔ Ka.Like s t) → Q (.bl b) H'
theorem ok_alike (T : Tx K mg a) : C8.Cal P w K mg base 11 "alike" (spAlike a) [] := by
  refine cal_of T.dAlike scAlike (fun vs H Q E h => ?_) (fun f cdv A outer s H vs Q E hr h => ?_)
  · obtain ⟨_, _, _, _, rfl, _⟩ := h; rfl
  · obtain ⟨p, q, s1, t1, rfl, hp, hq, ok1, ok2, k⟩ := h
    refine ⟨_, pss_one (ps_ret (pe_cmpR op_isN (C8.pe_c (ok_first T) hr (by decide) (by rfl) (pa_cons (pv 0) (pa_cons (pv 1) pa_nil))) pe_non (nomark _))), ?_⟩
    refine ⟨_, rfl, _, rfl, p, q, s1, t1, rfl, hp, hq, ok1, ok2, fun hd H' e => ⟨rfl, k _ H' e ?_⟩, fun al b hd z pa H' e _ _ => ⟨rfl, k _ H' e ?_⟩⟩
    · rw [← Ka.diff_none, hd]; simp
    · rw [← Ka.diff_none, hd]; simp
/-! ### subsets -/
/-- tuples of whole numbers below n -/
def Subs (H : Hp) (n m : Nat) (xs : List V) : Prop := ∀ v ∈ xs, ∃ q ks, v = .ref q ∧ H q = some (.tup (iV ks)) ∧ (∀ k ∈ ks, 0 ≤ k ∧ k < (n : Int)) ∧ ks.length ≤ m
theorem Subs.mono {H H' : Hp} {n m : Nat} {xs : List V} (e : NL H H') (h : Subs H n m xs) : Subs H' n m xs := fun v hv => by
  obtain ⟨q, ks, e1, h1, h2⟩ := h v hv
  exact ⟨q, ks, e1, e _ _ h1 rfl, h2⟩
theorem Subs.app {H : Hp} {n m : Nat} {xs ys : List V} (h1 : Subs H n m xs) (h2 : Subs H n m ys) : Subs H n m (xs ++ ys) := fun v hv => by
  rcases List.mem_append.mp hv with hv | hv
  · exact h1 v hv
  · exact h2 v hv
def spSubsets : Sp := fun vs H Q _ => ∃ n m : Nat, vs = [.int (n : Nat), .int (m : Nat)] ∧ n ≤ 5 ∧ m ≤ 5 ∧ ∀ F xs H', Ex H H' → H F = none → H' F = some (.lst xs) → Subs H' n 5 xs → Q (.ref F) H'
set_option maxHeartbeats 16000000 in
theorem ok_subsets (T : Tx K mg a) : C8.Cal P w K mg base 1 "subsets" spSubsets [] := by
  refine cal_of T.dSubsets scSubsets (fun vs H Q E h => ?_) (fun f cdv A outer s H vs Q E hr h => ?_)
  · obtain ⟨_, _, rfl, _⟩ := h; rfl
  · obtain ⟨n, m, rfl, hn, hm, k⟩ := h
    have nd := scSubsets.nd
    refine ⟨_, pss_cons (ps_set (i := 2) nd rfl (Or.inl rfl) (pe_lst (pa_cons (pe_tup pa_nil) pa_nil)))
      (pss_cons (ps_for PassesOwn.never rfl (pi_range1 (by rfl) T.b_range (pa_cons (pv 1) pa_nil)) (pg_name (i := 3) nd rfl (Or.inl rfl))
        (pss_cons (ps_set (i := 4) nd rfl (Or.inl rfl) (pe_lst pa_nil))
        (pss_cons (ps_for PassesOwn.never rfl (pi_list (pv 2)) (pg_name (i := 5) nd rfl (Or.inr rfl))
          (pss_one (ps_expr (pe_bm PySem.F.plainAttrs_list PySem.F.slot_list_extend PySem.F.type_list_extend mt_extend (pv 4) (pa_cons
            (pe_lc (own := [("number", 6)]) (g := gName 6) (tt := tYes) (te := tTup (StX.tStar K (tVar 5) (tCons (tVar 6) tNil))) rfl nd (pi_range2 (by rfl) T.b_range (pa_cons (PE.up (pe_ifExp (pt_cmpR (op_ne0 hr.units) (pv 5) (pe_tup pa_nil) (nomark _)) (pe_op op_add (pe_ix ix_tup (pv 5) (pe_un un_neg pe_int) (fun _ _ => rfl)) pe_int) pe_int)) (pa_cons (pv 0) pa_nil)))
              (blkOk_by (N := ["count", "size", "found", "turn", "longer", "some", "number"]) (sc := C8.fnScope sSubsets) (by decide +kernel)) (fun _ _ _ _ _ => pg_name (i := 6) nd rfl (Or.inl rfl)) (fun _ _ _ _ _ => pts_nil)
              (fun _ _ _ _ _ => pe_tup (StX.pa_star (pv 5) (pa_cons (pv 6) pa_nil)))) pa_nil)))))
        (pss_one (ps_set (i := 2) nd rfl (Or.inl rfl) (pv 4))))))
      (pss_one (ps_ret (pv 2)))), ?_⟩
    refine ⟨Nat.zero_le _, fun z0 hz0 => ⟨by show 1 ≤ sizeLine; decide, fun F hF => ?_⟩⟩
    have e0 : Ex H (upd (upd H z0 (.tup [])) F (.lst [.ref z0])) := (Ex.new hz0).trans (Ex.new hF)
    have hFn : H F = none := fresh_back (Ex.new hz0) hF
    refine ⟨_, rfl, (m : Int), rfl, by omega, by omega, ?_⟩
    rw [Int.toNat_natCast]
    refine for_it walk_range (fun i σ H' => ∃ F xs y3 y4 y5 y6, σ = [some (.int (n : Nat)), some (.int (m : Nat)), some (.ref F), y3, y4, y5, y6] ∧ Ex H H' ∧ H F = none ∧ H' F = some (.lst xs) ∧ Subs H' n i xs ∧ xs.length ≤ 5 ^ i)
      ⟨F, _, none, none, none, none, rfl, e0, hFn, upd_same, fun v hv => ⟨z0, [], List.mem_singleton.mp hv, Ex.new hF _ _ upd_same, fun k hk => (by cases hk), Nat.le_refl _⟩, Nat.le_refl _⟩ (fun _ _ _ _ _ => trivial) ?_ ?_
    · rintro i v σ _ H1 hi ⟨F, xs, y3, y4, y5, y6, rfl, e1, hFn, hF1, hS, hl⟩ ⟨rfl, rfl⟩
      refine ⟨Nat.zero_le _, fun L hL => ?_⟩
      have hpow : 5 ^ i ≤ 625 := by
        calc 5 ^ i ≤ 5 ^ 4 := Nat.pow_le_pow_right (by decide) (by omega)
          _ = 625 := rfl
      refine ⟨_, rfl, F, rfl, ⟨_, SqL.of (Ex.new hL _ _ hF1)⟩, ?_⟩
      refine for_it walk_list (fun j σ H' => ∃ acc y3 y5 y6, σ = [some (.int (n : Nat)), some (.int (m : Nat)), some (.ref F), y3, some (.ref L), y5, y6] ∧ Ex H1 H' ∧ H' L = some (.lst acc) ∧ Subs H' n (i + 1) acc ∧ acc.length ≤ j * 5)
        ⟨[], _, y5, y6, rfl, Ex.new hL, upd_same, (fun v hv => by cases hv), Nat.le_refl _⟩ (fun j σ H' _ ⟨_, _, _, _, _, e, _⟩ => SqL.of (e _ _ hF1)) ?_ ?_
      · rintro j v σ _ H2 hj ⟨acc, y3, y5, y6, rfl, e2, hL2, hA, hla⟩ ⟨rfl, hv⟩
        obtain ⟨q, ks, rfl, hq, hk1, hk2⟩ := hS v (List.mem_of_getElem? hv)
        refine ⟨_, rfl, .inl ⟨rfl, _, SqL.of hL2⟩, ?_⟩
        refine ⟨fun v H' => ∃ lo : Int, v = .int lo ∧ 0 ≤ lo ∧ lo ≤ (n : Int) ∧ Ex H2 H', ?_, ?_⟩
        · refine ⟨_, rfl, Nat.zero_le _, fun w hw => ⟨q, w, iV ks, rfl, rfl, SqT.of (Ex.new hw _ _ (e2 _ _ hq)), SqT.of upd_same, ?_⟩⟩
          rcases (show ks = [] ∨ ∃ ks' l, ks = ks' ++ [l] by
            rcases List.eq_nil_or_concat ks with h | ⟨ks', l, h⟩
            · exact .inl h
            · exact .inr ⟨ks', l, by rw [h, List.concat_eq_append]⟩) with rfl | ⟨ks', l, rfl⟩
          · exact ⟨false, rfl, iteF ⟨0, rfl, Int.le_refl _, by omega, Ex.new hw⟩⟩
          · have hne : ¬ iV (ks' ++ [l]) = [] := by unfold iV; simp
            obtain ⟨b1, b2⟩ := hk1 l (by simp)
            refine ⟨true, congrArg V.bl (by rw [decide_eq_false hne]; rfl), iteT ⟨_, rfl, _, rfl, q, _, _, _, rfl, rfl, SqT.of (Ex.new hw _ _ (e2 _ _ hq)), ?_, _, _, rfl, rfl, l + 1, rfl, by omega, by omega, Ex.new hw⟩⟩
            show atI (iV (ks' ++ [l])) (-1) = some (.int l)
            rw [iV, List.map_append]
            exact atI_last _ _
        rintro _ H3 ⟨lo, rfl, l1, l2, e3⟩
        refine ⟨_, rfl, lo, _, rfl, ⟨by omega, by omega, by omega, by omega⟩, fun D hD => ?_⟩
        have e23 := e2.trans e3
        have hq3 := e23 _ _ hq
        refine lc_all walk_range (by omega) hD (fun _ v H => ∃ z ls, v = .ref z ∧ H z = some (.tup (iV ls)) ∧ (∀ k ∈ ls, 0 ≤ k ∧ k < (n : Int)) ∧ ls.length ≤ i + 1) (fun _ v H H' e ⟨z, ls, g1, g2, g3⟩ => ⟨z, ls, g1, e _ _ g2 rfl, g3⟩) (fun _ _ => trivial) ?_ ?_
        · rintro r x _ H4 hr4 e4 ⟨rfl, rfl⟩ R hR
          refine ⟨rfl, _, rfl, q, iV ks, rfl, .inl (SqT.of (e4 _ _ hq3)), _, rfl, ?_, fun z hz => ?_⟩
          · show (iV ks ++ [V.int (lo + (r : Nat))]).length ≤ sizeLine
            rw [List.length_append, iV, List.length_map]
            exact sz_of (by simp; omega)
          · refine hR _ _ (Ex.new hz) ⟨z, ks ++ [lo + (r : Nat)], rfl, ?_, ?_, ?_⟩
            · rw [upd_same, iV, iV, List.map_append]; rfl
            · intro k' hk'
              rcases List.mem_append.mp hk' with h | h
              · exact hk1 k' h
              · rw [List.mem_singleton.mp h]; omega
            · rw [List.length_append]; simp; omega
        · intro zs H4 e4 hz4 ln4 hy4
          have e34 := e3.trans e4
          refine ⟨L, D, acc, zs, rfl, rfl, e34 _ _ hL2, hz4, ?_, ?_⟩
          · rw [ln4]; exact sz_of (by omega)
          · have nl : NL H2 (upd H4 L (.lst (acc ++ zs))) := (NL.of e34).put (e34 _ _ hL2)
            have nl2 : NL H4 (upd H4 L (.lst (acc ++ zs))) := (NL.refl H4).put (e34 _ _ hL2)
            refine ⟨acc ++ zs, _, _, _, rfl, (e23.trans e4).mut hL, upd_same, (hA.mono nl).app (Subs.mono nl2 fun v hv => ?_), ?_⟩
            · obtain ⟨r, hr, er⟩ := List.getElem_of_mem hv
              exact hy4 r v (by rw [List.getElem?_eq_getElem hr, er])
            · rw [List.length_append, ln4]; omega
      · rintro σ H' ⟨acc, y3, y5, y6, rfl, e, hL', hA, hla⟩
        refine ⟨_, rfl, L, acc, _, _, _, _, rfl, e1.trans e, fresh_back e1 hL, hL', hA, ?_⟩
        rw [Nat.pow_succ]
        exact Nat.le_trans hla (Nat.mul_le_mul_right 5 hl)
    · rintro σ H' ⟨F, xs, y3, y4, y5, y6, rfl, e, hFn, hF', hS, hl⟩
      exact ⟨_, rfl, k F xs H' e hFn hF' fun v hv => by
        obtain ⟨q, ks, g1, g2, g3, g4⟩ := hS v hv
        exact ⟨q, ks, g1, g2, g3, by omega⟩⟩
end
end Kb

set_option Elab.async false
set_option linter.all false
set_option maxRecDepth 100000
set_option maxHeartbeats 8000000
/-! least_kept, least_stack. -/
namespace Kb
open PySem PySem.Spec PyProof.Rows L2 Evl
open Ka (Nm Res Mk Tr)
/-- the numbers below n that are not kept -/
def rest (n : Nat) (ks : List Int) : List Int := ((List.range n).map fun (i : Nat) => (i : Int)).filter fun k => decide (k ∉ ks)
theorem rest_succ (n : Nat) (ks : List Int) : rest (n + 1) ks = rest n ks ++ (if (n : Int) ∈ ks then [] else [(n : Int)]) := by
  unfold rest
  rw [List.range_succ, List.map_append, List.filter_append]
  congr 1
  by_cases h : (n : Int) ∈ ks <;> simp [h]
theorem rest_mem {n : Nat} {ks : List Int} {k : Int} (h : k ∈ rest n ks) : 0 ≤ k ∧ k < (n : Int) := by
  have h1 := (List.mem_filter.mp h).1
  obtain ⟨i, hi, rfl⟩ := List.mem_map.mp h1
  have := List.mem_range.mp hi
  omega
theorem rest_nodup (n : Nat) (ks : List Int) : (rest n ks).Nodup := List.Pairwise.filter _ (nodup_map (fun a b h => by omega) List.nodup_range)
theorem rest_len (n : Nat) (ks : List Int) : (rest n ks).length ≤ n := by
  refine Nat.le_trans (List.length_filter_le _ _) ?_
  rw [List.length_map, List.length_range]; exact Nat.le_refl _
theorem rest_all (n : Nat) : rest n ((List.range n).map fun (i : Nat) => (i : Int)) = [] := by
  unfold rest
  rw [List.filter_eq_nil_iff]
  intro k hk
  simp only [decide_eq_true_eq]
  exact fun z => z hk
theorem rgV_iV (n : Nat) : rgV 0 (n : Int) = iV ((List.range n).map fun (i : Nat) => (i : Int)) := by
  unfold rgV iV
  rw [List.map_map, Int.sub_zero, Int.toNat_natCast]
  exact List.map_congr_left fun i _ => by simp
section
variable {P : Program} {w : World} {K : PySem.W.Frag} {mg : Str → Option Value} {base : Heap} {a : Ad}
def spLeastKept (K : PySem.W.Frag) (a : Ad) : Sp := fun vs H Q _ => ∃ (p : Addr) (t : Tr), vs = [.ref p] ∧ StackAt a H p t ∧ Ok t ∧ t.count ≤ 5 ∧ ∀ q ks H', Ex H H' → SqT K H' q (iV ks) → Ka.Like t (Ka.keep (inK (rest t.count ks)) t 0) → Q (.ref q) H'
theorem ok_keep {t : Tr} (ks : Int → Bool) (s : Int) (h : Ok t) : Ok (Ka.keep ks t s) := ⟨Nat.le_trans (Ka.keep_count ks t s) h.c, Nat.le_trans (Ka.keep_len ks t s) h.l, Ka.keep_fit ks t s h.f, Nat.le_trans (Ka.keep_depth ks t s) h.d⟩
set_option maxHeartbeats 16000000 in
theorem ok_least_kept (T : Tx K mg a) : C8.Cal P w K mg base 12 "least_kept" (spLeastKept K a) [] := by
  refine cal_of T.dLeastKept scLeastKept (fun vs H Q E h => ?_) (fun f cdv A outer s H vs Q E hr h => ?_)
  · obtain ⟨_, _, rfl, _⟩ := h; rfl
  · obtain ⟨p, t, rfl, hp, ok, h5, k⟩ := h
    have nd := scLeastKept.nd
    refine ⟨_, pss_cons (ps_set (i := 1) nd rfl (Or.inl rfl) (pe_callB call_len_seq (by rfl) T.b_len PySem.boot_len (pa_cons (pe_fld (pv 0) rfl) pa_nil)))
      (pss_cons (ps_for PassesOwn.never rfl (pi_range1 (by rfl) T.b_range (pa_cons (pv 1) pa_nil)) (pg_name (i := 2) nd rfl (Or.inl rfl))
        (pss_one (ps_for PassesOwn.never rfl (pi_list (C8.pe_c (ok_subsets T) hr (by decide) (by rfl) (pa_cons (pv 1) (pa_cons (pv 2) pa_nil)))) (pg_name (i := 3) nd rfl (Or.inr rfl))
          (pss_one (ps_if (pt_val (C8.pe_c (ok_alike T) hr (by decide) (by rfl) (pa_cons (pv 0) (pa_cons (C8.pe_mt (ok_without T) hr (by decide) (pv 0) (pa_cons (pe_tupleOf (by rfl) T.b_tuple
            (pe_lc (own := [("number", 4)]) (g := gName 4) (tt := tTest (tOp (rIn K true) (tVar 4) (tVar 3))) rfl nd (pi_range1 (by rfl) T.b_range (pa_cons (pv 1) pa_nil)) (blkOk_by (N := ["stack", "count", "size", "some", "number"]) (sc := C8.fnScope sLeastKept) (by decide +kernel))
              (fun _ _ _ _ _ => pg_name (i := 4) nd rfl (Or.inl rfl)) (fun _ _ _ _ _ => pts_one (pt_cmpR op_notIn_seq (pv 4) (pv 3) (by rfl))) (fun _ _ _ _ _ => pv 4))) pa_nil)) pa_nil))))
            (pss_one (ps_ret (pv 3))) pss_nil)))))
      (pss_one (ps_ret (pe_tupRg rfl (by rfl) T.b_tuple (prg_1 (by rfl) T.b_range (pv 1)))))), ?_⟩
    have hp0 := hp
    obtain ⟨dx, pa, st, nm, ys, rs, h1, h2, h3, h4, h5', h6⟩ := hp0
    have lrs : rs.length = t.count := by rw [h5'.len, Ka.Tr.rules_length]
    refine ⟨_, rfl, p, _, dx, _, _, rfl, h1, T.kStack, T.nStack_steps, lk_steps .., st, rs, rfl, .inr (SqT.of h4), ?_⟩
    rw [lrs]
    refine ⟨_, rfl, (t.count : Int), rfl, by omega, by omega, ?_⟩
    rw [Int.toNat_natCast]
    refine for_it walk_range (fun i σ H' => ∃ y2 y3 y4, σ = [some (.ref p), some (.int (t.count : Nat)), y2, y3, y4] ∧ Ex H H') ⟨none, none, none, rfl, Ex.refl H⟩ (fun _ _ _ _ _ => trivial) ?_ ?_
    · rintro i v σ _ H1 hi ⟨y2, y3, y4, rfl, e1⟩ ⟨rfl, rfl⟩
      refine ⟨_, rfl, _, rfl, t.count, 0 + i, rfl, h5, by omega, fun F xs H2 e2 hFn hF hS => ⟨F, rfl, ⟨_, SqL.of hF⟩, ?_⟩⟩
      refine for_it walk_list (fun j σ H' => ∃ y3 y4, σ = [some (.ref p), some (.int (t.count : Nat)), some (.int (0 + (i : Nat))), y3, y4] ∧ Ex H2 H') ⟨_, _, rfl, Ex.refl _⟩ (fun j σ H' _ ⟨_, _, _, e⟩ => SqL.of (e _ _ hF)) ?_ ?_
      · rintro j v σ _ H3 hj ⟨y3, y4, rfl, e3⟩ ⟨rfl, hv⟩
        obtain ⟨q, ks, rfl, hq, hk1, hk2⟩ := hS v (List.mem_of_getElem? hv)
        have e123 := (e1.trans e2).trans e3
        have hq3 := e3 _ _ hq
        refine ⟨_, rfl, _, rfl, p, dx, _, rfl, e123 _ _ h1, lk_no .., _, rfl, (t.count : Int), rfl, by omega, by omega, fun D hD => ?_⟩
        rw [Int.toNat_natCast]
        refine lc_it walk_range (fun r H' => Ex H3 H' ∧ H' D = some (.lst (iV (rest r ks)))) ⟨Ex.new hD, upd_same⟩ (fun _ _ _ _ => trivial) ?_ ?_
        · rintro r x _ H4 hr4 ⟨e4, hD4⟩ ⟨rfl, rfl⟩
          refine ⟨rfl, _, rfl, _, rfl, q, _, rfl, .inr (SqT.of (e4 _ _ hq3)), rfl, flat_ints ks, ?_⟩
          rw [inV_int, show decide ((0 + (r : Int)) ∈ ks) = decide ((r : Int) ∈ ks) by rw [Int.zero_add]]
          by_cases hm : (r : Int) ∈ ks
          · rw [decide_eq_true hm]
            refine ⟨false, rfl, iteF ⟨e4, ?_⟩⟩
            rw [hD4, rest_succ, if_pos hm, List.append_nil]
          · rw [decide_eq_false hm]
            refine ⟨true, rfl, iteT ⟨_, rfl, _, hD4, ?_, e4.mut hD, ?_⟩⟩
            · have := rest_len r ks
              rw [iV, List.length_map]; exact sz_lt (by omega)
            · rw [upd_same, rest_succ, if_neg hm, iV, iV, List.map_append]
              show some (HO.lst (_ ++ [V.int (0 + (r : Int))])) = _
              rw [Int.zero_add]; rfl
        · rintro H4 ⟨e4, hD4⟩
          refine .inl ⟨D, _, rfl, SqL.of hD4, fun z hz => ?_⟩
          have e5 := e4.trans (Ex.new (o := .tup (iV (rest t.count ks))) hz)
          have e15 := e123.trans e5
          refine ⟨p, z, t, rest t.count ks, rfl, hp.mono (NL.of e15), SqT.of upd_same, rest_nodup _ _, fun kk hkk => rest_mem hkk, ok.c, ok.l, ok.f, ok.d, fun y H6 e6 hy => ?_⟩
          refine ⟨p, y, t, _, rfl, hp.mono (NL.of (e15.trans e6)), hy, ok, ok_keep _ _ ok, fun b H7 e7 hb => ?_⟩
          cases b with
          | true => exact ⟨true, rfl, iteT ⟨_, rfl, k q ks H7 ((e15.trans e6).trans e7) (SqT.of (e7 _ _ (e6 _ _ (e5 _ _ hq3)))) (hb.mp rfl)⟩⟩
          | false => exact ⟨false, rfl, iteF ⟨_, _, rfl, (e3.trans e5).trans (e6.trans e7)⟩⟩
      · rintro σ H' ⟨y3, y4, rfl, e⟩
        exact ⟨_, _, _, rfl, (e1.trans e2).trans e⟩
    · rintro σ H' ⟨y2, y3, y4, rfl, e⟩
      refine ⟨_, rfl, _, rfl, RgOk.of_le (Int.le_refl _) (by omega) (by decide) (by omega), fun q hq => ?_⟩
      rw [rgV_iV]
      refine k q _ _ (e.trans (Ex.new hq)) (SqT.of upd_same) ?_
      rw [rest_all]
      rw [show inK [] = fun _ => false by funext k; simp [inK], Ka.keep_none]
      exact fun f => rfl
end
end Kb

set_option Elab.async false
set_option linter.all false
set_option maxRecDepth 100000
set_option maxHeartbeats 8000000
/-! Dicts whose keys are tuples, nested. -/
namespace Kb
open PySem PySem.Spec PyProof.Rows L2 Evl
abbrev NK := PySem.NestedKey
/-- entries, by value -/
abbrev NE := NK × Addr × V
def NRel : NE → (NK × Addr × Value) → Prop := fun x u => x.1 = u.1 ∧ x.2.1 = u.2.1 ∧ RelV x.2.2 u.2.2
/-- the dict's own object -/
def DkP (P : Program) (w : World) (d : Addr) (xs : List NE) (h : Heap) : Prop := (d == sysModules) = false ∧ ∃ us, Paired NRel xs us ∧ ∃ o es ep, h.get? d = some o ∧ o.ExactDict ∧ o.data = .dict es ep ∧ es.toList = us.map (entryOfKey (nestedKind P w)) ∧ (us.map (·.1)).Nodup
def DkO (P : Program) (w : World) (d : Addr) (xs : List NE) : HO := .ext fun h => DkP P w d xs h
theorem dkO_new {P : Program} {w : World} {H : Hp} {h : Heap} {d : Addr} {xs : List NE} (R : DkP P w d xs h) : ObjOk P w H h d (DkO P w d xs) := by
  have ⟨_, us, _, o, es, ep, ho, _⟩ := R
  refine ⟨R, ⟨_, ho⟩, fun h1 h2 p k => ?_⟩
  obtain ⟨hs, us, hp, o, es, ep, ho, r⟩ := p
  exact ⟨hs, us, hp, o, es, ep, k o ho, r⟩
section
variable {X : Cx}
/-- the key k stands at a -/
def KAt (X : Cx) (H : Hp) (k : NK) (a : Addr) : Prop := k.depth ≤ 8 ∧ ∀ (pins : List (Addr × Obj)) (σ : L2.St) (s : Shared), Inv X pins σ H s → NestedIs s.heap k (.ref a)
theorem paired_app {α β : Type} {R : α → β → Prop} {xs ys : List α} {us ws : List β} (h : Paired R xs us) (k : Paired R ys ws) : Paired R (xs ++ ys) (us ++ ws) := by
  induction h with
  | nil => exact k
  | cons h1 _ ih => exact .cons h1 ih
theorem nrel_keys {xs : List NE} {us : List (NK × Addr × Value)} (h : Paired NRel xs us) : xs.map (·.1) = us.map (·.1) := by
  induction h with
  | nil => rfl
  | cons h1 _ ih => rw [List.map_cons, List.map_cons, ih, h1.1]
theorem nrel_at {xs : List NE} {us : List (NK × Addr × Value)} (h : Paired NRel xs us) (k : NK) : (∀ u, atKey us k = some u → ∃ x ∈ xs, x.1 = k ∧ x.2.1 = u.1 ∧ RelV x.2.2 u.2) ∧ (atKey us k).isSome = decide (k ∈ xs.map (·.1)) := by
  induction h with
  | nil => exact ⟨fun u hu => (by cases hu), rfl⟩
  | @cons x u xs us h1 _ ih =>
    obtain ⟨i1, i2⟩ := ih
    by_cases hk : u.1 = k
    · have e : atKey (u :: us) k = some u.2 := by unfold atKey; simp [hk]
      refine ⟨fun v hv => ?_, ?_⟩
      · rw [e] at hv; cases hv
        exact ⟨x, List.mem_cons_self, h1.1.trans hk, h1.2.1, h1.2.2⟩
      · rw [e]; simp [h1.1, hk]
    · have e : atKey (u :: us) k = atKey us k := by unfold atKey; simp [hk]
      refine ⟨fun v hv => ?_, ?_⟩
      · rw [e] at hv
        obtain ⟨y, hy, r⟩ := i1 v hv
        exact ⟨y, List.mem_cons_of_mem _ hy, r⟩
      · rw [e, i2]
        have : ¬ k = x.1 := fun z => hk (by rw [z]; exact h1.1.symm)
        simp [this]
theorem nrel_mem {xs : List NE} {us : List (NK × Addr × Value)} (h : Paired NRel xs us) {u : NK × Addr × Value} (hu : u ∈ us) : ∃ x ∈ xs, x.1 = u.1 ∧ x.2.1 = u.2.1 := by
  induction h with
  | nil => cases hu
  | cons h1 _ ih =>
    rcases List.mem_cons.mp hu with e | hu
    · subst e; exact ⟨_, List.mem_cons_self, h1.1, h1.2.1⟩
    · obtain ⟨y, hy, r⟩ := ih hu
      exact ⟨y, List.mem_cons_of_mem _ hy, r⟩
theorem dk_full {pins : List (Addr × Obj)} {σ : L2.St} {H : Hp} {s : Shared} {d : Addr} {xs : List NE} (I : Inv X pins σ H s) (hd : H d = some (DkO X.prog X.w d xs)) (hk : ∀ x ∈ xs, KAt X H x.1 x.2.1) :
    (d == sysModules) = false ∧ ∃ us, Paired NRel xs us ∧ s.heap.DictOfH (nestedKind X.prog X.w) d us := by
  obtain ⟨hs, us, hp, o, es, ep, ho, hc, hdat, he, hn⟩ := (I.hok d _ hd).1
  refine ⟨hs, us, hp, o, es, ep, ho, hc, hdat, he, fun u hu => ?_, hn⟩
  obtain ⟨x, hx, e1, e2⟩ := nrel_mem hp hu
  obtain ⟨k1, k2⟩ := hk x hx
  rw [← e1, ← e2]
  exact ⟨k2 pins σ s I, k1⟩
theorem pe_dnewN {pos : Pos} : PE X (.Dict [] [] pos) (fun _ H Q => ∀ p, H p = none → Q (.ref p) (upd H p (DkO X.prog X.w p []))) := ⟨fun pins s σ H Q I h =>
  wpAny_Dict_empty ⟨.ref s.heap.objs.size, _, I.laid (a := s.heap.objs.size) (o := DkO X.prog X.w s.heap.objs.size []) (t' := s.toks) (fun _ _ q => Heap.get?_push_of_some _ q) (Nat.le_refl _)
    (dkO_new ⟨beq_eq_false_iff_ne.mpr (Nat.ne_of_gt I.big), [], .nil, _, #[], 0, Heap.get?_push_size _ rfl, ⟨rfl, rfl, rfl⟩, rfl, rfl, List.nodup_nil⟩), rfl, h _ (I.hok.fresh (Nat.le_refl _))⟩⟩
theorem op_notInN (hu : X.A.units + 64 < cLine) : OpR X (compareOp .NotIn) (fun x y H Q => ∃ a d k xs, x = .ref a ∧ y = .ref d ∧ H d = some (DkO X.prog X.w d xs) ∧ KAt X H k a ∧ (∀ x ∈ xs, KAt X H x.1 x.2.1) ∧ Q (.bl (!decide (k ∈ xs.map (·.1)))) H) := by
  intro pins s σ H x y v u Q I rx ry h
  obtain ⟨a, d, k, xs, rfl, rfl, hd, hk, hx, q⟩ := h
  obtain rfl : v = Value.ref a := rx
  obtain rfl : u = Value.ref d := ry
  obtain ⟨hs, us, hp, hm⟩ := dk_full I hd hx
  refine notIn_keyed (knd := nestedKind X.prog X.w) (kvs := pairsH us) (show X.A.units + 1 + 8 < cLine by omega) ⟨hk.2 pins σ s I, hk.1⟩ hs ⟨us, hm, rfl⟩ ?_
  refine ⟨.bl _, H, I.tok _, ?_, q⟩
  show Value.bool _ = Value.bool _
  rw [valueAt_pairsH, Option.isSome_map, (nrel_at hp k).2]
theorem set_N (hu : X.A.units + 64 < cLine) : PSet X (fun o i v H Q => ∃ d a k xs, o = .ref d ∧ i = .ref a ∧ H d = some (DkO X.prog X.w d xs) ∧ KAt X H k a ∧ (∀ x ∈ xs, KAt X H x.1 x.2.1) ∧ k ∉ xs.map (·.1) ∧ xs.length ≤ 1000 ∧ Q (upd H d (DkO X.prog X.w d (xs ++ [(k, a, v)])))) := by
  intro pins s σ H o i v ov iv u Q I ro ri rv h
  obtain ⟨d, a, k, xs, rfl, rfl, hd, hk, hx, hnew, hl, q⟩ := h
  obtain rfl : ov = Value.ref d := ro
  obtain rfl : iv = Value.ref a := ri
  obtain ⟨hs, us, hp, hm⟩ := dk_full I hd hx
  have hnone : atKey us k = none := by
    have z := (nrel_at hp k).2
    rw [decide_eq_false hnew] at z
    exact Option.not_isSome_iff_eq_none.mp (by rw [z]; decide)
  have hlu : us.length = xs.length := hp.length.symm
  refine wpAny_setItem_heap (knd := nestedKind X.prog X.w) (hsz := by rw [hlu, sizeLine_eq]; omega) (show X.A.units + 1 + 8 < cLine by omega) ⟨hk.2 pins σ s I, hk.1⟩ hm fun h' hm' hs' => ?_
  rw [storedH_new hnone] at hm'
  obtain ⟨o', es, ep, ho, hc, hdat, he, his, hn⟩ := hm'
  have J : Inv X pins σ (upd H d (DkO X.prog X.w d (xs ++ [(k, a, v)]))) { s with heap := h', toks := s.toks + k.draws } :=
    d_write I (by rw [hd]; exact True.intro) hs' ⟨o', ho⟩ (dkO_new ⟨hs, us ++ [(k, a, u)], paired_app hp (.cons ⟨rfl, rfl, rv⟩ .nil), o', es, ep, ho, hc, hdat, he, hn⟩)
  exact ⟨_, J, q⟩
/-- d[key] -/
def tNGet (X : Cx) (td ty : TE) : TE := fun σ H Q => td σ H fun x H1 => ty σ H1 fun y H2 => ∃ d a k xs v, x = .ref d ∧ y = .ref a ∧ H2 d = some (DkO X.prog X.w d xs) ∧ KAt X H2 k a ∧ (∀ x ∈ xs, KAt X H2 x.1 x.2.1) ∧ (∀ x ∈ xs, x.1 = k → x.2.2 = v) ∧ k ∈ xs.map (·.1) ∧ Q v H2
theorem pe_nget {o i : Expr} {td ty : TE} {pos : Pos} (hu : X.A.units + 64 < cLine) (ho : PE X o td) (hi : PE X i ty) (hs : NoSl i) : PE X (.Subscript o i pos) (tNGet X td ty) := by
  refine ⟨fun pins s σ H Q I h => ?_⟩
  refine subD_of PySem.F.slot_dict_getitem.lookup hs (thn (ho.run pins s σ H _ I h) fun u s1 ⟨x, H1, I1, rx, q1⟩ => thn (hi.run pins s1 σ H1 _ I1 q1) fun iv s2 ⟨y, H2, I2, ry, d, a, k, xs, v, ex, ey, hd, hk, hx, hv, hm, q⟩ => ?_)
  subst ex ey
  obtain rfl : u = Value.ref d := rx
  obtain rfl : iv = Value.ref a := ry
  obtain ⟨hs, us, hp, hmm⟩ := dk_full I2 hd hx
  refine ⟨hmm.typeIs, ?_⟩
  have z := (nrel_at hp k).2
  rw [decide_eq_true hm] at z
  obtain ⟨p, hpk⟩ := Option.isSome_iff_exists.mp z
  obtain ⟨y, hy, e1, _, r⟩ := (nrel_at hp k).1 p hpk
  refine wpAny_getItem_heap (knd := nestedKind X.prog X.w) (show X.A.units + 1 + 8 < cLine by omega) ⟨hk.2 pins σ s2 I2, hk.1⟩ hmm hpk ?_
  exact ⟨v, H2, I2.tok _, by rw [← hv y hy e1]; exact r, q⟩
/-- d.setdefault(key, e) -/
def tNSetd (X : Cx) (td ty tx : TE) : TE := fun σ H Q => td σ H fun x H1 => ∃ d xs, x = .ref d ∧ H1 d = some (DkO X.prog X.w d xs) ∧ ty σ H1 fun y H2 => tx σ H2 fun z H3 => ∃ a k, y = .ref a ∧ H3 d = some (DkO X.prog X.w d xs) ∧ KAt X H3 k a ∧ (∀ x ∈ xs, KAt X H3 x.1 x.2.1) ∧ xs.length ≤ 1000 ∧
  (∀ v, (∀ x ∈ xs, x.1 = k → x.2.2 = v) → k ∈ xs.map (·.1) → Q v H3 ∨ ∃ x ∈ xs, x.1 = k ∧ x.2.2 ≠ v) ∧ (k ∉ xs.map (·.1) → Q z (upd H3 d (DkO X.prog X.w d (xs ++ [(k, a, z)]))))
theorem nodup_one {xs : List NE} (h : (xs.map (·.1)).Nodup) {x y : NE} (hx : x ∈ xs) (hy : y ∈ xs) (e : x.1 = y.1) : x = y := by
  induction xs with
  | nil => cases hx
  | cons z xs ih =>
    rw [List.map_cons, List.nodup_cons] at h
    rcases List.mem_cons.mp hx with ex | hx
    · rcases List.mem_cons.mp hy with ey | hy
      · rw [ex, ey]
      · exact absurd (show z.1 ∈ xs.map (·.1) from List.mem_map.mpr ⟨y, hy, by rw [← e, ex]⟩) h.1
    · rcases List.mem_cons.mp hy with ey | hy
      · exact absurd (show z.1 ∈ xs.map (·.1) from List.mem_map.mpr ⟨x, hx, by rw [e, ey]⟩) h.1
      · exact ih h.2 hx hy
theorem pe_nsetd {o e f : Expr} {td ty tx : TE} {apos cpos : Pos} (hu : X.A.units + 64 < cLine) (ho : PE X o td) (he : PE X e ty) (hf : PE X f tx) (m : M2 X o "setdefault" apos e f cpos) : PE X (.Call (.Attribute o "setdefault" apos) [e, f] [] cpos) (tNSetd X td ty tx) := by
  refine ⟨fun pins s σ H Q I h => ?_⟩
  refine wpAny_Call_method m.base m.few m.line PySem.F.plainAttrs_dict PySem.F.slot_dict_setdefault PySem.F.type_dict_setdefault (thn (ho.run pins s σ H _ I h) fun u s1 ⟨x, H1, I1, rx, d, xs, ex, hd, q1⟩ => ?_)
  subst ex
  obtain rfl : u = Value.ref d := rx
  obtain ⟨_, us, hp, o1, es, ep, ho1, hc1, _⟩ := (I1.hok d _ hd).1
  refine ⟨⟨o1, ho1, hc1.1⟩, fun b q => ?_, ?_⟩
  · cases q
    exact ⟨o1, ho1, hc1.2.1⟩
  rw [m.trees]
  refine Calls.callWith_builtin rfl (Calls.evalArgs_plain (Calls.spliced_cons (thn (he.run pins s1 σ H1 _ I1 q1) fun iv s2 ⟨y, H2, I2, ry, q2⟩ =>
    Calls.spliced_cons (thn (hf.run pins s2 σ H2 _ I2 q2) fun fv s3 ⟨z, H3, I3, rz, a, k, ey, hd3, hk, hx, hl, q3, q4⟩ => Calls.spliced_nil ?_))))
  subst ey
  obtain rfl : iv = Value.ref a := ry
  obtain ⟨hs, us, hp, hmm⟩ := dk_full I3 hd3 hx
  have nd : (xs.map (·.1)).Nodup := by
    rw [nrel_keys hp]
    obtain ⟨_, _, _, _, _, _, _, _, hn⟩ := id hmm
    exact hn
  refine call_setdefault_heap (knd := nestedKind X.prog X.w) (show X.A.units + 1 + 8 < cLine by omega) ⟨hk.2 pins σ s3 I3, hk.1⟩ hs hmm (fun p hpk => ?_) (fun hn h' hm' hs' => ?_) (by rw [← hp.length, sizeLine_eq]; omega)
  · obtain ⟨w, hw, e1, _, r⟩ := (nrel_at hp k).1 p hpk
    rcases q3 w.2.2 (fun w' hw' e' => by rw [nodup_one nd hw' hw (e'.trans e1.symm)]) (List.mem_map.mpr ⟨w, hw, e1⟩) with q | ⟨w', hw', e', ne⟩
    · exact ⟨_, H3, I3.tok _, r, q⟩
    · exact absurd (by rw [nodup_one nd hw' hw (e'.trans e1.symm)]) ne
  · rw [storedH_new hn] at hm'
    have hnew : k ∉ xs.map (·.1) := by
      have z := (nrel_at hp k).2
      rw [hn] at z
      exact of_decide_eq_false z.symm
    obtain ⟨o', es', ep', ho', hc', hdat', he', his', hn'⟩ := hm'
    have J : Inv X pins σ (upd H3 d (DkO X.prog X.w d (xs ++ [(k, a, z)]))) { s3 with heap := h', toks := s3.toks + k.draws } :=
      d_write I3 (by rw [hd3]; exact True.intro) hs' ⟨o', ho'⟩ (dkO_new ⟨hs, us ++ [(k, a, fv)], paired_app hp (.cons ⟨rfl, rfl, rz⟩ .nil), o', es', ep', ho', hc', hdat', he', hn'⟩)
    exact ⟨z, _, J, rz, q4 hnew⟩
/-- list(d.values()) -/
def tNVals (X : Cx) (td : TE) : TE := fun σ H Q => td σ H fun x H1 => ∃ d xs, x = .ref d ∧ H1 d = some (DkO X.prog X.w d xs) ∧ xs.length ≤ 1000 ∧ ∀ p, H1 p = none → Q (.ref p) (upd H1 p (.lst (xs.map (·.2.2))))
theorem vals_N {xs : List NE} {us : List (NK × Addr × Value)} (h : Paired NRel xs us) : Vals (xs.map (·.2.2)) (us.map (·.2.2)) := by
  induction h with
  | nil => exact .nil
  | cons h1 _ ih => exact .cons h1.2.2 ih
theorem pe_nvals {e : Expr} {td : TE} {p apos cpos pos : Pos} (hc : X.calm = true) (he : PE X e td) (hg : Gl X "list") (hm : X.mg "list" = none) (hbase : attributeBase e "values" X.env (eval e X.env) = eval e X.env := by rfl) (hline : (apos.endLine == cpos.line) = true := by rfl)
    (hs : starEach [.Call (.Attribute e "values" apos) [] [] cpos] X.env = (false, eval (.Call (.Attribute e "values" apos) [] [] cpos) X.env) :: starEach [] X.env := by rfl) :
    PE X (.Call (.Name "list" p) [.Call (.Attribute e "values" apos) [] [] cpos] [] pos) (tNVals X td) := by
  refine ⟨fun pins s σ H Q I hq => ?_⟩
  refine wpAny_Call_Name_kw (ld_blt I hg hm boot_list ?_)
  refine PyProof.Rows.callWith_type1 ?_ hs rfl
  rw [hs]
  show wpAny _ _ (spliced ((false, eval (.Call (.Attribute e "values" apos) [] [] cpos) X.env) :: backTo pos (starEach [] X.env))) _ _ s
  refine Calls.spliced_cons ?_
  refine wpAny_Call_method (T := "dict") (id := "dict.values") hbase rfl hline PySem.F.plainAttrs_dict PySem.F.slot_dict_values PySem.F.type_dict_values (thn (he.run pins s σ H _ I hq) fun u s1 ⟨x, H1, I1, rx, d, xs, ex, hd, hl, q⟩ => ?_)
  subst ex
  obtain rfl : u = Value.ref d := rx
  obtain ⟨hsy, us, hp, o1, es, ep, ho1, hc1, hdat, hes, hn⟩ := (I1.hok d _ hd).1
  have raw : s1.heap.DictRaw d es ep := ⟨o1, ho1, hc1, hdat⟩
  have I2 : Inv X pins σ H1 { s1 with heap := s1.heap.push { cls := .type "dict_values", data := .fields #[.ref d] } } := I1.kept (t' := s1.toks) fun b ob q => Heap.get?_push_of_some _ q
  refine ⟨⟨o1, ho1, hc1.1⟩, fun b q => ?_, ?_⟩
  · cases q
    exact ⟨o1, ho1, hc1.2.1⟩
  show wpAny _ _ (callWith cpos (.builtin "dict.values") [.ref d] [] []) _ X.xe s1
  refine method_meetsIn PySem.F.slot_dict_values PySem.F.entry_dict_values rfl (PySem.evalArgs_none ⟨rfl, raw.typeIs, PySem.F.args_dict_values_1 _, _, meets_dict_values_raw d hsy, ⟨es, ep, raw⟩, ?_⟩)
  refine Calls.spliced_nil ?_
  have lus : us.length = xs.length := hp.length.symm
  have les : es.size = xs.length := by rw [← Array.length_toList, hes, List.length_map, lus]
  have src : PySem.W.KdlSrc X.prog X.w "dict_values" s1.heap.objs.size d es.size (fun i v => ∃ hi : i < es.size, v = es[i].val) (fun h => h.IsValuesView s1.heap.objs.size d ∧ h.DictRaw d es ep) := {
    type := fun _ hm => hm.1.typeIs
    there := fun _ hm => ⟨let ⟨_, ho, _⟩ := hm.1; Heap.lt_size ho, let ⟨_, ho, _⟩ := hm.2; Heap.lt_size ho⟩
    keep := fun _ _ hm hk => ⟨let ⟨o, ho, x⟩ := hm.1; ⟨o, hk _ (.inl rfl) o ho, x⟩, hm.2.at fun o e => hk d (.inr rfl) o e⟩
    notList := by decide
    notTuple := by decide
    hint := fun _ _ _ _ hm hq => PySem.W.kdl_hint_values hm.1.typeIs hq
    iter := fun _ s' hh hm => ⟨_, _, (fun _ _ hq => wpAny_pyIter_values_raw hm.1 hm.2 hq), Walks.rawValues hh _ d (Nat.ne_of_lt (let ⟨_, ho, _⟩ := hm.2; Heap.lt_size ho)) es ep, ⟨⟨_, Heap.get?_push_size _ rfl, rfl, rfl⟩, hm.2.at fun o e => Heap.get?_push_of_some _ e⟩⟩ }
  refine PySem.W.kdl_call (s := { s1 with heap := s1.heap.push { cls := .type "dict_values", data := .fields #[.ref d] } }) src (I1.ok.hd hc) ⟨⟨_, Heap.get?_push_size _ rfl, rfl, rfl⟩, raw.at fun o e => Heap.get?_push_of_some _ e⟩ (by rw [les, sizeLine_eq]; omega) fun h' tk acc c hk hS hacc => ?_
  have eacc : acc.toList = us.map (·.2.2) := by
    apply List.ext_getElem
    · rw [Array.length_toList, hacc.1, les, List.length_map, lus]
    · intro i h1 h2
      have hi : i < acc.size := by rw [Array.length_toList] at h1; exact h1
      obtain ⟨hi2, e⟩ := hacc.2 i _ (Array.getElem?_eq_getElem hi)
      rw [Array.getElem_toList, e]
      have e3 : es.toList[i]? = (us.map (entryOfKey (nestedKind X.prog X.w)))[i]? := by rw [hes]
      rw [Array.getElem?_toList, Array.getElem?_eq_getElem hi2, List.getElem?_map] at e3
      have hiu : i < us.length := by rw [List.length_map] at h2; exact h2
      rw [List.getElem?_eq_getElem hiu] at e3
      rw [Option.some.inj e3, List.getElem_map]; rfl
  have hz : (xs.map (·.2.2)).length ≤ sizeLine := by rw [List.length_map, sizeLine_eq]; omega
  exact ⟨.ref _, _, I2.laid (t' := tk) (o := .lst (xs.map (·.2.2))) hk (Nat.le_refl _) ⟨hz, acc.toList, c, by rw [eacc]; exact vals_N hp, by rw [Array.toArray_toList]; exact hS⟩, rfl, q _ (I2.hok.fresh (Nat.le_refl _))⟩
end
end Kb

set_option Elab.async false
set_option linter.all false
set_option maxRecDepth 100000
set_option maxHeartbeats 8000000
/-! least_stack. -/
namespace Kb
open PySem PySem.Spec PyProof.Rows L2 Evl
open Ka (Nm Res Mk Tr)
section
variable {P : Program} {w : World} {K : PySem.W.Frag} {mg : Str → Option Value} {base : Heap} {a : Ad}
def spLeastStack (a : Ad) : Sp := fun vs H Q _ => ∃ (p : Addr) (t : Tr), vs = [.ref p] ∧ StackAt a H p t ∧ Ok t ∧ t.count ≤ 5 ∧ ∀ z u H', Ex H H' → StackAt a H' z u → Ok u → Ka.Like t u → (∀ n, u.has n = true → t.has n = true) → Q (.ref z) H'
set_option maxHeartbeats 16000000 in
theorem ok_least_stack (T : Tx K mg a) : C8.Cal P w K mg base 13 "least_stack" (spLeastStack a) [] := by
  refine cal_of T.dLeastStack scLeastStack (fun vs H Q E h => ?_) (fun f cdv A outer s H vs Q E hr h => ?_)
  · obtain ⟨_, _, rfl, _⟩ := h; rfl
  · obtain ⟨p, t, rfl, hp, ok, h5, k⟩ := h
    have nd := scLeastStack.nd
    refine ⟨_, pss_cons (ps_set (i := 1) nd rfl (Or.inr rfl) (C8.pe_c (ok_least_kept T) hr (by decide) (by rfl) (pa_cons (pv 0) pa_nil)))
      (pss_one (ps_ret (C8.pe_mt (ok_without T) hr (by decide) (pv 0) (pa_cons (pe_tupleOf (by rfl) T.b_tuple
            (pe_lc (own := [("number", 2)]) (g := gName 2) (tt := tTest (tOp (rIn K true) (tVar 2) (tVar 1))) rfl nd (pi_range1 (by rfl) T.b_range (pa_cons (pe_callB call_len_seq (by rfl) T.b_len PySem.boot_len (pa_cons (pe_fld (pv 0) rfl) pa_nil)) pa_nil)) (blkOk_by (N := ["stack", "some", "number"]) (sc := C8.fnScope sLeastStack) (by decide +kernel))
              (fun _ _ _ _ _ => pg_name (i := 2) nd rfl (Or.inl rfl)) (fun _ _ _ _ _ => pts_one (pt_cmpR op_notIn_seq (pv 2) (pv 1) (by rfl))) (fun _ _ _ _ _ => pv 2))) pa_nil)))), ?_⟩
    refine ⟨_, rfl, p, t, rfl, hp, ok, h5, fun q ks H1 e1 hq hlike => ?_⟩
    have hp1 := hp.mono (NL.of e1)
    have hp0 := hp1
    obtain ⟨dx, pa, st, nm, ys, rs, h1, h2, h3, h4, h5', h6⟩ := hp0
    have lrs : rs.length = t.count := by rw [h5'.len, Ka.Tr.rules_length]
    refine ⟨_, rfl, p, dx, _, rfl, h1, lk_no .., _, rfl, p, _, dx, _, _, rfl, h1, T.kStack, T.nStack_steps, lk_steps .., st, rs, rfl, .inr (SqT.of h4), ?_⟩
    rw [lrs]
    refine ⟨(t.count : Int), rfl, by omega, by omega, fun D hD => ?_⟩
    rw [Int.toNat_natCast]
    refine lc_it walk_range (fun r H' => Ex H1 H' ∧ H' D = some (.lst (iV (rest r ks)))) ⟨Ex.new hD, upd_same⟩ (fun _ _ _ _ => trivial) ?_ ?_
    · rintro r x _ H4 hr4 ⟨e4, hD4⟩ ⟨rfl, rfl⟩
      refine ⟨rfl, _, rfl, _, rfl, q, _, rfl, .inr (ex_t e4 hq), rfl, flat_ints ks, ?_⟩
      rw [inV_int, show decide ((0 + (r : Int)) ∈ ks) = decide ((r : Int) ∈ ks) by rw [Int.zero_add]]
      by_cases hm : (r : Int) ∈ ks
      · rw [decide_eq_true hm]
        refine ⟨false, rfl, iteF ⟨e4, ?_⟩⟩
        rw [hD4, rest_succ, if_pos hm, List.append_nil]
      · rw [decide_eq_false hm]
        refine ⟨true, rfl, iteT ⟨_, rfl, _, hD4, ?_, e4.mut hD, ?_⟩⟩
        · have := rest_len r ks
          rw [iV, List.length_map]; exact sz_lt (by omega)
        · rw [upd_same, rest_succ, if_neg hm, iV, iV, List.map_append]
          show some (HO.lst (_ ++ [V.int (0 + (r : Int))])) = _
          rw [Int.zero_add]; rfl
    · rintro H4 ⟨e4, hD4⟩
      refine .inl ⟨D, _, rfl, SqL.of hD4, fun z hz => ?_⟩
      have e5 := e4.trans (Ex.new (o := .tup (iV (rest t.count ks))) hz)
      refine ⟨p, z, t, rest t.count ks, rfl, hp1.mono (NL.of e5), SqT.of upd_same, rest_nodup _ _, fun kk hkk => rest_mem hkk, ok.c, ok.l, ok.f, ok.d, fun y H6 e6 hy => ?_⟩
      exact k y _ H6 ((e1.trans e5).trans e6) hy (ok_keep _ _ ok) hlike fun n hn => Ka.keep_has _ _ _ _ hn
end
end Kb

set_option Elab.async false
set_option linter.all false
set_option maxRecDepth 100000
set_option maxHeartbeats 8000000
/-! list(zip(*t)): t a tuple of two tuples. -/
namespace Kb
open PySem PySem.Spec PyProof.Rows L2 Evl
theorem zip_no_len : typeLookup (.type "zip") "__len__" = pure none := am_miss_of_fast (by decide +kernel)
theorem zip_no_hint : typeLookup (.type "zip") "__length_hint__" = pure none := am_miss_of_fast (by decide +kernel)
section
variable {prog : Program} {w : World} {A : Around} {E : Value → Shared → Prop} {s : Shared} {z TI TO T i1 i2 : Addr} {f : Bool} {oT : Obj} {fp1 fp2 : List Addr} {n1 n2 i : Nat} {P1 P2 : Nat → Value → Prop} {St1 St2 : Nat → Heap → Prop}
theorem zipH_item {Q : Value → Shared → Prop} (S : ZipSep2 z TI TO i1 i2 fp1 fp2) (D1 : Draws prog w A i1 fp1 n1 P1 St1) (D2 : Draws prog w A i2 fp2 n2 P2 St2)
    (hz : IsZipHeld s.heap z TI TO T f) (hT : s.heap.get? T = some oT) (hTI : IsTupOf2 s.heap TI (.ref i1) (.ref i2)) (st1 : St1 i s.heap) (st2 : St2 i s.heap) (hlt1 : i < n1) (hlt2 : i < n2)
    (hQ : ∀ x1 x2 h' tk, P1 i x1 → P2 i x2 → IsZipHeld h' z TI TO T true → St1 (i + 1) h' → St2 (i + 1) h' → IsTupOf2 h' s.heap.objs.size x1 x2 →
      (∀ c o, c ≠ z → c ≠ i1 → c ≠ i2 → s.heap.get? c = some o → h'.get? c = some o) → Q (.ref s.heap.objs.size) { s with heap := h', toks := tk }) :
    wpAny (model prog w) A (Builtin.«zip.__next__» ⟨[.ref z], []⟩) (fun fin s' => ∃ v, fin = .done (.ret v) ∧ Q v s') E s := by
  obtain ⟨hp, g, d, tk0, os⟩ := s
  show wpAny _ _ (field (.ref z) 2 >>= _) _ _ _
  refine wpAny_bind (wpAny_field hz rfl (x := .bool false) rfl ?_)
  show wpAny _ _ (field (.ref z) 3 >>= _) _ _ _
  refine wpAny_bind (wpAny_field hz rfl (x := .ref TI) rfl ?_)
  refine wpAny_bind (wpAny_seqItems hTI rfl ?_)
  show wpAny _ _ (Builtin.SmallTypes.ownedTupleIsFree (.ref z) >>= _) _ _ _
  refine wpAny_bind (wpAny_tupleHeld_zip hz hT fun h₁ hz₁ hs₁ => ?_)
  replace hs₁ : Heap.SameBut z hp h₁ := hs₁
  simp only [Bool.false_eq_true, if_false]
  refine wpAny_bind ?_
  rw [← Array.forIn_toList]
  simp only [List.forIn_cons, List.forIn_nil]
  refine wpAny_bind (wpAny_bind (wpAny_holding ?_))
  show wpAny _ _ (Builtin.SmallTypes.nextOf (.ref i1) >>= _) _ _ ⟨h₁, g, d, tk0, os⟩
  refine wpAny_bind (D1.item i _ _ _ hlt1 (D1.over st1 hs₁ S.zf1) fun x1 p1 tk1 hx1 sn1 hp1 => wpAny_pure ?_)
  replace hp1 : Heap.SameBut i1 h₁ p1 := hp1
  refine wpAny_pure ?_
  refine wpAny_bind (wpAny_bind (wpAny_holding ?_))
  show wpAny _ _ (Builtin.SmallTypes.nextOf (.ref i2) >>= _) _ _ ⟨p1, g, d, tk1, os⟩
  refine wpAny_bind (D2.item i _ _ _ hlt2 (D2.over (D2.over st2 hs₁ S.zf2) hp1 S.sep1_2) fun x2 p2 tk2 hx2 sn2 hp2 => wpAny_pure ?_)
  replace hp2 : Heap.SameBut i2 p1 p2 := hp2
  refine wpAny_pure (wpAny_pure ?_)
  show wpAny _ _ (newTuple [x1, x2] >>= _) _ _ _
  refine wpAny_bind (wpAny_newTuple ?_)
  have hsz : p2.objs.size = hp.objs.size := by rw [hp2.1, hp1.1, hs₁.1]
  have hz₃ : IsZipHeld p2 z TI TO T true := hp2.extBut _ _ S.zi2 (hp1.extBut _ _ S.zi1 hz₁)
  have hk : ∀ c o, c ≠ z → c ≠ i1 → c ≠ i2 → hp.get? c = some o → p2.get? c = some o := fun c o c1 c2 c3 e => hp2.extBut _ _ c3 (hp1.extBut _ _ c2 (hs₁.extBut _ _ c1 e))
  refine wpAny_pure ⟨_, rfl, ?_⟩
  have hpn : IsTupOf2 (p2.push { cls := .type "tuple", data := .seq #[x1, x2] }) p2.objs.size x1 x2 := Heap.get?_push_size _ rfl
  show Q (.ref p2.objs.size) ⟨p2.push { cls := .type "tuple", data := .seq #[x1, x2] }, g, d, tk2, os⟩
  rw [hsz] at hpn ⊢
  exact hQ x1 x2 _ tk2 hx1 hx2 (Heap.get?_push_of_some _ hz₃) (D1.frame _ _ _ (D1.over sn1 hp2 S.sep2_1) fun b hb o e => Heap.get?_push_of_some _ e) (D2.frame _ _ _ sn2 fun b hb o e => Heap.get?_push_of_some _ e) hpn fun c o c1 c2 c3 e => Heap.get?_push_of_some _ (hk c o c1 c2 c3 e)
theorem zipH_end {Q : Fin → Shared → Prop} (S : ZipSep2 z TI TO i1 i2 fp1 fp2) (D1 : Draws prog w A i1 fp1 n1 P1 St1) (D2 : Draws prog w A i2 fp2 n2 P2 St2)
    (hz : IsZipHeld s.heap z TI TO T f) (hT : s.heap.get? T = some oT) (hTI : IsTupOf2 s.heap TI (.ref i1) (.ref i2)) (st1 : St1 n1 s.heap)
    (hE : ∀ h' tk e, (∀ c o, c ≠ z → c ≠ i1 → c ≠ i2 → s.heap.get? c = some o → h'.get? c = some o) → (∃ o, h'.get? e = some o ∧ o.cls = .type "StopIteration") → E (.ref e) { s with heap := h', toks := tk }) :
    wpAny (model prog w) A (Builtin.«zip.__next__» ⟨[.ref z], []⟩) Q E s := by
  obtain ⟨hp, g, d, tk0, os⟩ := s
  show wpAny _ _ (field (.ref z) 2 >>= _) _ _ _
  refine wpAny_bind (wpAny_field hz rfl (x := .bool false) rfl ?_)
  show wpAny _ _ (field (.ref z) 3 >>= _) _ _ _
  refine wpAny_bind (wpAny_field hz rfl (x := .ref TI) rfl ?_)
  refine wpAny_bind (wpAny_seqItems hTI rfl ?_)
  show wpAny _ _ (Builtin.SmallTypes.ownedTupleIsFree (.ref z) >>= _) _ _ _
  refine wpAny_bind (wpAny_tupleHeld_zip hz hT fun h₁ hz₁ hs₁ => ?_)
  replace hs₁ : Heap.SameBut z hp h₁ := hs₁
  simp only [Bool.false_eq_true, if_false]
  refine wpAny_bind ?_
  rw [← Array.forIn_toList]
  simp only [List.forIn_cons, List.forIn_nil]
  refine wpAny_bind (wpAny_bind (wpAny_holding ?_))
  show wpAny _ _ (Builtin.SmallTypes.nextOf (.ref i1) >>= _) _ _ ⟨h₁, g, d, tk0, os⟩
  refine wpAny_bind (D1.done ⟨h₁, g, d, tk0, os⟩ _ _ (D1.over st1 hs₁ S.zf1) fun q e hq he => ?_)
  replace hq : Heap.ExtBut i1 h₁ q := hq
  exact hE q tk0 e (fun c o c1 c2 _ x => hq _ _ c2 (hs₁.extBut _ _ c1 x)) he
theorem nextH_item {Q : Option Value → Shared → Prop} (S : ZipSep2 z TI TO i1 i2 fp1 fp2) (D1 : Draws prog w A.in1 i1 fp1 n1 P1 St1) (D2 : Draws prog w A.in1 i2 fp2 n2 P2 St2)
    (hz : IsZipHeld s.heap z TI TO T f) (hT : s.heap.get? T = some oT) (hTI : IsTupOf2 s.heap TI (.ref i1) (.ref i2)) (st1 : St1 i s.heap) (st2 : St2 i s.heap) (hlt1 : i < n1) (hlt2 : i < n2)
    (hQ : ∀ x1 x2 h' tk, P1 i x1 → P2 i x2 → IsZipHeld h' z TI TO T true → St1 (i + 1) h' → St2 (i + 1) h' → IsTupOf2 h' s.heap.objs.size x1 x2 →
      (∀ c o, c ≠ z → c ≠ i1 → c ≠ i2 → s.heap.get? c = some o → h'.get? c = some o) → Q (some (.ref s.heap.objs.size)) { s with heap := h', toks := tk }) :
    wpAny (model prog w) A (pyNext (.ref z)) Q E s := by
  have hTy : s.TypeIs (.ref z) "zip" := ⟨_, hz, rfl⟩
  unfold pyNext
  exact wpAny_bind (wpAny_attempt (wpAny_callSpecial?_slot (name := Str.ofString "__next__") hTy PySem.F.slot_zip_next
    (wpAny_call_entry PySem.F.slot_zip_next hTy PySem.F.entry_zip_next
      (zipH_item S D1 D2 hz hT hTI st1 st2 hlt1 hlt2 fun x1 x2 h' tk y1 y2 b1 b2 d1 d2 b7 => wpAny_pure (hQ x1 x2 h' tk y1 y2 b1 b2 d1 d2 b7)) (PySem.F.args_zip_next_1 _))))
theorem nextH_end {Q : Option Value → Shared → Prop} (S : ZipSep2 z TI TO i1 i2 fp1 fp2) (D1 : Draws prog w A.in1 i1 fp1 n1 P1 St1) (D2 : Draws prog w A.in1 i2 fp2 n2 P2 St2)
    (hz : IsZipHeld s.heap z TI TO T f) (hT : s.heap.get? T = some oT) (hTI : IsTupOf2 s.heap TI (.ref i1) (.ref i2)) (st1 : St1 n1 s.heap)
    (hQ : ∀ h' tk, (∀ c o, c ≠ z → c ≠ i1 → c ≠ i2 → s.heap.get? c = some o → h'.get? c = some o) → Q none { s with heap := h', toks := tk }) : wpAny (model prog w) A (pyNext (.ref z)) Q E s := by
  have hTy : s.TypeIs (.ref z) "zip" := ⟨_, hz, rfl⟩
  unfold pyNext
  refine wpAny_bind (wpAny_attempt (wpAny_callSpecial?_slot (name := Str.ofString "__next__") hTy PySem.F.slot_zip_next
    (wpAny_call_entry PySem.F.slot_zip_next hTy PySem.F.entry_zip_next (zipH_end S D1 D2 hz hT hTI st1 fun h' tk e hk he => ?_) (PySem.F.args_zip_next_1 _))))
  obtain ⟨o, ho, hc⟩ := he
  refine wpAny_bind (wpAny_isInstance (T := "StopIteration") (b := true) ⟨o, ho, hc⟩ isSubtype_stop ?_)
  exact wpAny_pure (hQ _ _ hk)
/-- the zip at its i-th turn -/
structure ZS (N a b : Addr) (xs ys : Array Value) (i : Nat) (h : Heap) : Prop where
  ti : IsTupOf2 h (N + 2) (.ref N) (.ref (N + 1))
  s1 : h.IsTupleIter N a i
  s2 : h.IsTupleIter (N + 1) b i
  p1 : h.IsTuple a xs
  p2 : h.IsTuple b ys
  st : (IsZip h (N + 4) (N + 2) (N + 3) .none ∧ ∃ a1 a2, IsTupOf2 h (N + 3) a1 a2) ∨ ∃ T f oT, IsZipHeld h (N + 4) (N + 2) (N + 3) T f ∧ h.get? T = some oT ∧ N + 5 < T
/-- the acc: tuples that are there -/
def ZAcc (N : Addr) (xs ys : Array Value) (acc : Array Value) (i : Nat) (h : Heap) : Prop := acc.size = i ∧ ∀ (j : Nat) v, acc[j]? = some v → ∃ T x1 x2, v = .ref T ∧ N + 5 < T ∧ xs[j]? = some x1 ∧ ys[j]? = some x2 ∧ IsTupOf2 h T x1 x2
theorem ZAcc.at {N : Addr} {xs ys acc : Array Value} {i : Nat} {h h' : Heap} (k : ZAcc N xs ys acc i h) (hk : ∀ c o, N + 5 < c → h.get? c = some o → h'.get? c = some o) : ZAcc N xs ys acc i h' :=
  ⟨k.1, fun j v e => by obtain ⟨T, x1, x2, e1, e2, e3, e4, e5⟩ := k.2 j v e; exact ⟨T, x1, x2, e1, e2, e3, e4, hk _ _ e2 e5⟩⟩
/-- the loop that gathers: the list stands at N + 5 -/
theorem zloop {R : Result → Shared → Prop} {N a b : Addr} {xs ys : Array Value} (hh : A.handled = none) (ha : a < N) (hb : b < N) (hxy : xs.size = ys.size) (hn : xs.size ≤ sizeLine) (res : Value) :
    ∀ (k i : Nat) (s : Shared) (acc : Array Value) (c : Nat), xs.size - i = k → i ≤ xs.size → ZS N a b xs ys i s.heap → s.heap.get? (N + 5) = some { cls := .type "list", dict := none, data := .seq acc c, slots := #[] } → ZAcc N xs ys acc i s.heap →
    (∀ h' tk acc' c', (∀ b o, b < N → s.heap.get? b = some o → h'.get? b = some o) → h'.get? (N + 5) = some { cls := .type "list", dict := none, data := .seq acc' c', slots := #[] } → ZAcc N xs ys acc' xs.size h' → R (.ok (.ret res)) { s with heap := h', toks := tk }) →
    codeAny (model prog w) A (.builtin "list.extend.loop" ⟨[.ref (N + 5), .ref (N + 4), res], []⟩) R s := by
  have S := zip_sep2 (N := N) (fp1 := [a]) (fp2 := [b]) (fun c hc => by rw [List.mem_singleton.mp hc]; exact ha) (fun c hc => by rw [List.mem_singleton.mp hc]; exact hb)
  have D1 := Draws.tuple (prog := prog) (w := w) (A := A.in1.in1) hh N a (Nat.ne_of_lt ha) xs
  have D2 := Draws.tuple (prog := prog) (w := w) (A := A.in1.in1) hh (N + 1) b (Nat.ne_of_lt (Nat.lt_succ_of_lt hb)) ys
  rw [← hxy] at D2
  intro k
  induction k with
  | zero =>
    intro i s acc c hk hi hst hS hacc hR
    have hin : i = xs.size := by omega
    subst hin
    refine codeAny_builtin PySem.F.entry_extend_loop ?_
    rw [Around.under_plainId PySem.F.plain_extend_loop _]
    show wpAny _ A.in1 (pyNext (.ref (N + 4)) >>= _) _ _ s
    have fin : ∀ h' tk, (∀ c o, c ≠ N + 4 → c ≠ N + 3 → c ≠ N → c ≠ N + 1 → s.heap.get? c = some o → h'.get? c = some o) → R (.ok (.ret res)) { s with heap := h', toks := tk } := fun h' tk hk =>
      hR h' tk acc c (fun b o hb e => hk b o (by delta Addr at *; omega) (by delta Addr at *; omega) (by delta Addr at *; omega) (by delta Addr at *; omega) e) (hk _ _ (by delta Addr at *; omega) (by delta Addr at *; omega) (by delta Addr at *; omega) (by delta Addr at *; omega) hS) (hacc.at fun c o hc e => hk c o (by delta Addr at *; omega) (by delta Addr at *; omega) (by delta Addr at *; omega) (by delta Addr at *; omega) e)
    rcases hst.st with ⟨hz, a1, a2, hTO⟩ | ⟨T, f, oT, hz, hT, hlt⟩
    · exact wpAny_bind (wpAny_pyNext_zipD2_end S D1 D2 hz hst.ti hTO ⟨hst.s1, hst.p1⟩ ⟨hst.s2, hst.p2⟩ (Nat.le_refl _) (Nat.le_refl _) (.inl rfl) fun h' tk hk => wpAny_pure (fin h' tk hk))
    · exact wpAny_bind (nextH_end S D1 D2 hz hT hst.ti ⟨hst.s1, hst.p1⟩ fun h' tk hk => wpAny_pure (fin h' tk fun c o c1 _ c2 c3 e => hk c o c1 c2 c3 e))
  | succ k ih =>
    intro i s acc c hk hi hst hS hacc hR
    have hlt : i < xs.size := by omega
    refine codeAny_builtin PySem.F.entry_extend_loop ?_
    rw [Around.under_plainId PySem.F.plain_extend_loop _]
    show wpAny _ A.in1 (pyNext (.ref (N + 4)) >>= _) _ _ s
    have big : N + 5 < s.heap.objs.size := Heap.lt_size hS
    have go : ∀ x1 x2 h' tk, xs[i]? = some x1 → ys[i]? = some x2 → ((∃ T f oT, IsZipHeld h' (N + 4) (N + 2) (N + 3) T f ∧ h'.get? T = some oT ∧ N + 5 < T)) → h'.IsTupleIter N a (i + 1) → h'.IsTupleIter (N + 1) b (i + 1) → IsTupOf2 h' s.heap.objs.size x1 x2 →
        (∀ c o, c ≠ N + 4 → c ≠ N + 3 → c ≠ N → c ≠ N + 1 → s.heap.get? c = some o → h'.get? c = some o) →
        wpAny (model prog w) A.in1 (updateSeq (N + 5) (·.push (.ref s.heap.objs.size)) >>= fun _ => again (.builtin "list.extend.loop" ⟨[.ref (N + 5), .ref (N + 4), res], []⟩))
          (fun fin s' => match fin with | .done f => R (.ok f) s' | .again c' => c'.quiet = true ∧ codeAny (model prog w) A c' R s') (fun e s' => R (.error e) s') { s with heap := h', toks := tk } := by
      intro x1 x2 h' tk e1 e2 hz hs1 hs2 hT hk'
      have hS' := hk' _ _ (by delta Addr at *; omega) (by delta Addr at *; omega) (by delta Addr at *; omega) (by delta Addr at *; omega) hS
      have up : ∀ c o, c ≠ N + 5 → h'.get? c = some o → (h'.update (N + 5) (Obj.mapSeq (·.push (Value.ref s.heap.objs.size)))).get? c = some o := fun c o hc e => (Heap.get?_update_other _ _ (Ne.symm hc)).trans e
      refine wpAny_bind (wpAny_updateSeq hS' rfl (wpAny_pure ⟨plainId_quiet PySem.F.plain_extend_loop _, ih (i + 1) _ (acc.push (.ref s.heap.objs.size)) _ (by delta Addr at *; omega) hlt ?_ (Heap.get?_update_self _ hS' rfl) ?_ fun h'' tk'' acc' c' hm'' hS'' hacc' => ?_⟩)
        (by rw [hacc.1]; omega) (by show (acc.push _).size ≤ sizeLine + 1; rw [Array.size_push, hacc.1]; omega))
      · obtain ⟨T, f, oT, z1, z2, z3⟩ := hz
        exact ⟨up _ _ (by delta Addr at *; omega) (hk' _ _ (by delta Addr at *; omega) (by delta Addr at *; omega) (by delta Addr at *; omega) (by delta Addr at *; omega) hst.ti), hs1.at fun o e => up _ o (by delta Addr at *; omega) e, hs2.at fun o e => up _ o (by delta Addr at *; omega) e, hst.p1.at fun o e => up _ o (by delta Addr at *; omega) (hk' _ o (by delta Addr at *; omega) (by delta Addr at *; omega) (by delta Addr at *; omega) (by delta Addr at *; omega) e),
          hst.p2.at fun o e => up _ o (by delta Addr at *; omega) (hk' _ o (by delta Addr at *; omega) (by delta Addr at *; omega) (by delta Addr at *; omega) (by delta Addr at *; omega) e), .inr ⟨T, f, oT, up _ _ (by delta Addr at *; omega) z1, up _ _ (by delta Addr at *; omega) z2, z3⟩⟩
      · have hacc2 : ZAcc N xs ys acc i (h'.update (N + 5) (Obj.mapSeq (·.push (Value.ref s.heap.objs.size)))) := hacc.at fun c o hc e => up c o (by delta Addr at *; omega) (hk' c o (by delta Addr at *; omega) (by delta Addr at *; omega) (by delta Addr at *; omega) (by delta Addr at *; omega) e)
        refine ⟨by rw [Array.size_push, hacc.1], fun j v hj => ?_⟩
        rw [Array.getElem?_push] at hj
        split at hj
        · rename_i e; rw [hacc.1] at e; cases hj; rw [e]; exact ⟨_, x1, x2, rfl, big, e1, e2, up _ _ (by delta Addr at *; omega) hT⟩
        · exact hacc2.2 j v hj
      · exact hR h'' tk'' acc' c' (fun b o hb e => hm'' b o hb (up b o (by delta Addr at *; omega) (hk' b o (by delta Addr at *; omega) (by delta Addr at *; omega) (by delta Addr at *; omega) (by delta Addr at *; omega) e))) hS'' hacc'
    have hys : i < ys.size := by omega
    rcases hst.st with ⟨hz, a1, a2, hTO⟩ | ⟨T, f, oT, hz, hT, hlt'⟩
    · exact wpAny_bind (wpAny_pyNext_zipD2_item S D1 D2 hz hst.ti hTO ⟨hst.s1, hst.p1⟩ ⟨hst.s2, hst.p2⟩ hlt hlt fun x1 x2 h' tk y1 y2 b1 b2 d1 d2 b5 b6 b7 => go x1 x2 h' tk y1 y2 ⟨_, false, _, b1, b5, big⟩ d1.1 d2.1 b5 b7)
    · exact wpAny_bind (nextH_item S D1 D2 hz hT hst.ti ⟨hst.s1, hst.p1⟩ ⟨hst.s2, hst.p2⟩ hlt hlt fun x1 x2 h' tk y1 y2 b1 d1 d2 b5 b7 => go x1 x2 h' tk y1 y2 ⟨T, true, oT, b1, b7 _ _ (by delta Addr at *; omega) (by delta Addr at *; omega) (by delta Addr at *; omega) hT, hlt'⟩ d1.1 d2.1 b5 fun c o c1 _ c2 c3 e => b7 c o c1 c2 c3 e)
end
end Kb

set_option Elab.async false
set_option linter.all false
set_option maxRecDepth 100000
set_option maxHeartbeats 8000000
/-! list(zip(*t)), the call. -/
namespace Kb
open PySem PySem.Spec PyProof.Rows L2 Evl
section
variable {prog : Program} {w : World} {A : Around} {E : Value → Shared → Prop} {s : Shared} {N a b : Addr} {xs ys : Array Value}
theorem ZS.at {i : Nat} {h h' : Heap} (st : ZS N a b xs ys i h) (k : ∀ c o, c ≠ N + 5 → h.get? c = some o → h'.get? c = some o) (ha : a < N) (hb : b < N) : ZS N a b xs ys i h' := by
  obtain ⟨t, h1, h2, p1, p2, z⟩ := st
  refine ⟨k _ _ (by delta Addr at *; omega) t, h1.at fun o e => k _ o (by delta Addr at *; omega) e, h2.at fun o e => k _ o (by delta Addr at *; omega) e, p1.at fun o e => k _ o (by delta Addr at *; omega) e, p2.at fun o e => k _ o (by delta Addr at *; omega) e, ?_⟩
  rcases z with ⟨z, a1, a2, z2⟩ | ⟨T, f, oT, z, z2, z3⟩
  · exact .inl ⟨k _ _ (by delta Addr at *; omega) z, a1, a2, k _ _ (by delta Addr at *; omega) z2⟩
  · exact .inr ⟨T, f, oT, k _ _ (by delta Addr at *; omega) z, k _ _ (by delta Addr at *; omega) z2, z3⟩
theorem ZS.ty {i : Nat} (st : ZS N a b xs ys i s.heap) : s.TypeIs (.ref (N + 4)) "zip" := by
  rcases st.st with ⟨z, _⟩ | ⟨T, f, oT, z, _⟩
  · exact ⟨_, z, rfl⟩
  · exact ⟨_, z, rfl⟩
theorem zext {R : Result → Shared → Prop} (hh : A.handled = none) (ha : a < N) (hb : b < N) (hxy : xs.size = ys.size) (hn : xs.size ≤ sizeLine) (res : Value) (c₀ : Nat) (st : ZS N a b xs ys 0 s.heap) (hz : IsZip s.heap (N + 4) (N + 2) (N + 3) .none) (hS : s.heap.get? (N + 5) = some { cls := .type "list", data := .seq #[] c₀ })
    (hR : ∀ h' tk acc' c', (∀ b o, b < N → s.heap.get? b = some o → h'.get? b = some o) → h'.get? (N + 5) = some { cls := .type "list", dict := none, data := .seq acc' c', slots := #[] } → ZAcc N xs ys acc' xs.size h' → R (.ok (.ret res)) { s with heap := h', toks := tk }) :
    wpAny (model prog w) A.in1 (Builtin.List.listExtendWith (.ref (N + 5)) (.ref (N + 4)) res)
      (fun fin s' => match fin with | .done f => R (.ok f) s' | .again c' => c'.quiet = true ∧ codeAny (model prog w) A c' R s') (fun e s' => R (.error e) s') s := by
  unfold Builtin.List.listExtendWith
  refine wpAny_bind (wpAny_typeOf (T := "zip") st.ty ?_)
  have h1 : Builtin.List.listSameRef (.ref (N + 5)) (.ref (N + 4)) = false := by
    have : (N + 5 : Addr) ≠ N + 4 := by delta Addr at *; omega
    simp [Builtin.List.listSameRef, this]
  have h2 : (Value.type "zip" == Value.type "list") = false := by decide
  have h3 : (Value.type "zip" == Value.type "tuple") = false := by decide
  simp only [h1, h2, h3, Bool.or_false, Bool.false_eq_true, if_false]
  refine wpAny_bind (wpAny_pyIter_zip hz ?_)
  refine wpAny_bind (wpAny_holding ?_)
  unfold Builtin.List.listLengthHint
  refine wpAny_bind (wpAny_specialOf st.ty zip_no_len ?_)
  show wpAny _ _ (specialOf (Value.ref (N + 4)) (Str.ofString "__length_hint__") >>= _) _ _ _
  refine wpAny_bind (wpAny_specialOf st.ty zip_no_hint ?_)
  refine wpAny_pure ?_
  show wpAny _ _ (rule "list.extend.makes-room" >>= fun _ => Builtin.List.listTouch (.ref (N + 5)) >>= fun _ => again (.builtin "list.extend.loop" ⟨[.ref (N + 5), .ref (N + 4), res], []⟩)) _ _ _
  refine wpAny_bind (wpAny_rule ?_)
  refine wpAny_bind ?_
  show wpAny _ _ (updateSeq (N + 5) (·.push .none) >>= fun _ => updateSeq (N + 5) (·.pop)) _ _ _
  refine wpAny_bind (wpAny_updateSeq hS rfl ?_)
  have hS₂ := Heap.get?_update_self (Obj.mapSeq (·.push Value.none)) hS rfl
  refine wpAny_updateSeq (hz := by seq_fits) hS₂ rfl ?_
  have hS₃ := Heap.get?_update_self (Obj.mapSeq (·.pop)) hS₂ rfl
  have oth : ∀ c o, c ≠ N + 5 → s.heap.get? c = some o → ((s.heap.update (N + 5) (Obj.mapSeq (·.push Value.none))).update (N + 5) (Obj.mapSeq (·.pop))).get? c = some o := fun c o hc e =>
    (Heap.get?_update_other _ _ (Ne.symm hc)).trans ((Heap.get?_update_other _ _ (Ne.symm hc)).trans e)
  refine wpAny_pure ⟨plainId_quiet PySem.F.plain_extend_loop _, zloop hh ha hb hxy hn res xs.size 0 _ _ _ rfl (Nat.zero_le _) (st.at oth ha hb) hS₃ ⟨rfl, fun j v e => by simp at e⟩ fun h' tk acc' c' hk hS' hacc => ?_⟩
  exact hR h' tk acc' c' (fun c o hc e => hk c o hc (oth c o (by delta Addr at *; omega) e)) hS' hacc
theorem zinit {R : Result → Shared → Prop} (hh : A.handled = none) (ha : a < N) (hb : b < N) (hxy : xs.size = ys.size) (hn : xs.size ≤ sizeLine) (st : ZS N a b xs ys 0 s.heap) (hz : IsZip s.heap (N + 4) (N + 2) (N + 3) .none) (hS : s.heap.get? (N + 5) = some { cls := .type "list", data := .seq #[] })
    (hR : ∀ h' tk acc' c', (∀ b o, b < N → s.heap.get? b = some o → h'.get? b = some o) → h'.get? (N + 5) = some { cls := .type "list", dict := none, data := .seq acc' c', slots := #[] } → ZAcc N xs ys acc' xs.size h' → R (.ok (.ret .none)) { s with heap := h', toks := tk }) :
    wpAny (model prog w) A.in1 (Builtin.«list.__init__» ⟨[.ref (N + 5), .ref (N + 4)], []⟩)
      (fun fin s' => match fin with | .done f => R (.ok f) s' | .again c' => c'.quiet = true ∧ codeAny (model prog w) A c' R s') (fun e s' => R (.error e) s') s := by
  show wpAny _ _ (do let old ← Builtin.List.listItems (.ref (N + 5)); Builtin.List.listUpdate (.ref (N + 5)) (fun _ => #[]); letGo old.toList.reverse; Builtin.List.listExtendWith (.ref (N + 5)) (.ref (N + 4)) .none) _ _ s
  refine wpAny_bind ?_
  unfold Builtin.List.listItems
  refine wpAny_bind (wpAny_seqItems hS rfl (wpAny_pure ?_))
  show wpAny _ _ (updateSeq (N + 5) (fun _ => #[]) >>= fun _ => letGo (#[] : Array Value).toList.reverse >>= fun _ => Builtin.List.listExtendWith (.ref (N + 5)) (.ref (N + 4)) .none) _ _ s
  refine wpAny_bind (wpAny_updateSeq hS rfl ?_)
  have hS₂ := Heap.get?_update_self (Obj.mapSeq (fun _ => (#[] : Array Value))) hS rfl
  have oth : ∀ c o, c ≠ N + 5 → s.heap.get? c = some o → (s.heap.update (N + 5) (Obj.mapSeq (fun _ => (#[] : Array Value)))).get? c = some o :=
    fun c o hc e => (Heap.get?_update_other _ _ (Ne.symm hc)).trans e
  refine wpAny_bind (wpAny_letGo ?_)
  exact zext hh ha hb hxy hn .none _ (st.at oth ha hb) (oth _ _ (by delta Addr at *; omega) hz) hS₂ fun h' tk acc' c' hk hS' hacc => hR h' tk acc' c' (fun c o hc e => hk c o hc (oth c o (by delta Addr at *; omega) e)) hS' hacc
theorem zcall {Q : Value → Shared → Prop} (hh : A.handled = none) (ha : a < N) (hb : b < N) (hxy : xs.size = ys.size) (hn : xs.size ≤ sizeLine) (st : ZS N a b xs ys 0 s.heap) (hz : IsZip s.heap (N + 4) (N + 2) (N + 3) .none) (hN : s.heap.objs.size = N + 5)
    (hQ : ∀ h' tk acc' c', (∀ b o, b < N → s.heap.get? b = some o → h'.get? b = some o) → h'.get? (N + 5) = some { cls := .type "list", dict := none, data := .seq acc' c', slots := #[] } → ZAcc N xs ys acc' xs.size h' → Q (.ref (N + 5)) { s with heap := h', toks := tk }) :
    wpAny (model prog w) A (call (.type "list") [.ref (N + 4)]) Q E s := by
  refine callType_codes (Q₁ := fun obj s₁ => obj = .ref s.heap.objs.size ∧ s₁ = { s with heap := s.heap.push { cls := .type "list", data := .seq #[] } }) PySem.F.called_list (PySem.F.typeCall_list_1 _) PySem.F.entry_list_init
    (code_list_new _ ⟨rfl, rfl⟩) fun obj s₁ h₁ => ?_
  obtain ⟨rfl, rfl⟩ := h₁
  have hS : (s.heap.push { cls := .type "list", data := .seq #[] }).get? s.heap.objs.size = some { cls := .type "list", data := .seq #[] } := Heap.get?_push_size _ rfl
  have up : ∀ c o, s.heap.get? c = some o → (s.heap.push { cls := .type "list", data := .seq #[] }).get? c = some o := fun c o e => Heap.get?_push_of_some _ e
  rw [hN] at hS ⊢
  refine ⟨⟨_, hS, rfl⟩, PySem.F.args_list_init_2 _ _, zinit (A := A.in1) hh ha hb hxy hn (st.at (fun c o _ e => up c o e) ha hb) (up _ _ hz) hS (fun h' tk acc' c' hk hS' hacc => ?_)⟩
  exact ⟨rfl, hQ h' tk acc' c' (fun c o hc e => hk c o hc (up c o e)) hS' hacc⟩
end
section
variable {X : Cx} {pins : List (Addr × Obj)} {σ : List (Option V)} {H : Hp} {s : Shared}
theorem laidF {h' : Heap} {t' : Nat} (I : Inv X pins σ H s) (k : ∀ b u, s.heap.get? b = some u → h'.get? b = some u) (H2 : Hp) (low : ∀ b, b < s.heap.objs.size → H2 b = H b) (new : ∀ b o, s.heap.objs.size ≤ b → H2 b = some o → ObjOk X.prog X.w H2 h' b o) : Inv X pins σ H2 { s with heap := h', toks := t' } := by
  have up : ∀ b o, H b = some o → H2 b = some o := fun b o e => by rw [low b (I.hok.lt e)]; exact e
  refine I.un ⟨fun b u q _ _ _ => k b u q, fun b u q _ _ _ => ⟨u.slots, k b u q⟩, fun b u q n _ => by rw [low b (Heap.lt_size q)]; exact n, fun b u q _ => ⟨u, k b u q⟩, fun b xs q => up b _ q, fun b u xs q => up b _ q, fun b ps q => ⟨#[], by rw [up b _ q]; simp⟩⟩ fun b o e => ?_
  by_cases hb : b < s.heap.objs.size
  · rw [low b hb] at e
    exact (I.hok b o e).stay (fun c v _ q => k c v q) (fun c q => up c _ q) fun c xs q => up c _ q
  · exact new b o (Nat.le_of_not_lt hb) e
/-- list(zip(*t)), t of two tuples of texts -/
def tLzip (K : PySem.W.Frag) (te : TE) : TE := fun σ H Q => te σ H fun y H1 => ∃ (a q1 q2 : Addr) (ss rs : List Str), y = .ref a ∧ SqT K H1 a [.ref q1, .ref q2] ∧ SqT K H1 q1 (ss.map V.str) ∧ SqT K H1 q2 (rs.map V.str) ∧ ss.length = rs.length ∧ ss.length ≤ 1000 ∧
  ∀ (l : Addr) (cs : List V) (H2 : Hp), Ex H1 H2 → H1 l = none → H2 l = some (.lst cs) → cs.length = ss.length → (∀ (j : Nat) (v : V), cs[j]? = some v → ∃ T s1 s2, v = .ref T ∧ ss[j]? = some s1 ∧ rs[j]? = some s2 ∧ H2 T = some (.tup [.str s1, .str s2])) → Q (.ref l) H2
theorem vals_at {xs : List V} {its : List Value} (rv : Vals xs its) {i : Nat} {u : Value} (hu : its[i]? = some u) : ∃ x, xs[i]? = some x ∧ RelV x u := by
  have hi : i < its.length := (List.getElem?_eq_some_iff.mp hu).1
  have hx : i < xs.length := by rw [rv.length]; exact hi
  refine ⟨xs[i], List.getElem?_eq_getElem hx, vals_get rv (List.getElem?_eq_getElem hx) hu⟩
theorem strs_at {ss : List Str} {its : List Value} (rv : Vals (ss.map V.str) its) {i : Nat} {u : Value} (hu : its[i]? = some u) : ∃ s1 t, ss[i]? = some s1 ∧ u = .str s1 t := by
  obtain ⟨x, hx, r⟩ := vals_at rv hu
  rw [List.getElem?_map] at hx
  cases e : ss[i]? with
  | none => rw [e] at hx; cases hx
  | some s1 =>
    rw [e] at hx; cases hx
    obtain ⟨t, rfl⟩ := r
    exact ⟨s1, t, rfl, rfl⟩
open Classical in
theorem pe_lzip {e : Expr} {te : TE} {p1 p2 p3 p4 p5 : Pos} (hcm : X.calm = true) (hgl : Gl X "list") (hml : X.mg "list" = none) (hgz : Gl X "zip") (hmz : X.mg "zip" = none) (he : PE X e te)
    (hs : starEach [.Call (.Name "zip" p2) [.Starred e p3] [] p4] X.env = (false, eval (.Call (.Name "zip" p2) [.Starred e p3] [] p4) X.env) :: starEach [] X.env := by rfl) (hst : starEach [.Starred e p3] X.env = [(true, eval e X.env)] := by rfl) :
    PE X (.Call (.Name "list" p1) [.Call (.Name "zip" p2) [.Starred e p3] [] p4] [] p5) (tLzip X.K te) := by
  refine ⟨fun pins s σ H Q I h => ?_⟩
  refine wpAny_Call_Name_kw (ld_blt I hgl hml boot_list ?_)
  refine PyProof.Rows.callWith_type1 ?_ hs rfl
  rw [hs]
  show wpAny _ _ (spliced ((false, eval (.Call (.Name "zip" p2) [.Starred e p3] [] p4) X.env) :: backTo p5 (starEach [] X.env))) _ _ s
  refine Calls.spliced_cons ?_
  refine wpAny_Call_Name_kw (ld_blt I hgz hmz PyProof.Rows.boot_zip ?_)
  rw [hst]
  refine PySem.W.ks_call (P := fun _ => True) rfl (fun h _ => ⟨.machine, .inr (.inl rfl), PySem.W.Looks.now⟩) (PySem.W.ks_lone (thn (he.run pins s σ H _ I h) fun v s1 ⟨y, H1, I1, ry, a, q1, q2, ss, rs, ey, ha, hq1, hq2, hl, hlen, q⟩ => ?_))
  subst ey
  obtain rfl : v = Value.ref a := ry
  refine StX.star_any I1 (.inl ha) fun us s2 I2 rv => ⟨trivial, ?_⟩
  obtain ⟨u1, u2, rfl, r1, r2⟩ := Vals.two rv
  obtain rfl : u1 = Value.ref q1 := r1
  obtain rfl : u2 = Value.ref q2 := r2
  obtain ⟨its, rv1, pt1, _⟩ := I2.tuple hq1
  obtain ⟨its2, rv2, pt2, _⟩ := I2.tuple hq2
  have la : q1 < s2.heap.objs.size := by obtain ⟨o, ho, _⟩ := id pt1; exact Heap.lt_size ho
  have lb : q2 < s2.heap.objs.size := by obtain ⟨o, ho, _⟩ := id pt2; exact Heap.lt_size ho
  have l1 : its.length = ss.length := by rw [← rv1.length, List.length_map]
  have l2 : its2.length = rs.length := by rw [← rv2.length, List.length_map]
  refine zip_begins2 (begins_tuple q1 its.toArray) (begins_tuple q2 its2.toArray) pt1 pt2 fun h' hz hTI hTO h1 h2 hsz hk => Calls.spliced_nil ?_
  refine zcall (N := s2.heap.objs.size) (xs := its.toArray) (ys := its2.toArray) (I1.ok.hd hcm) la lb (by rw [List.size_toArray, List.size_toArray, l1, l2, hl]) (by rw [List.size_toArray, l1, sizeLine_eq]; omega)
    ⟨hTI, ⟨_, h1, rfl, rfl⟩, ⟨_, h2, rfl, rfl⟩, (show s2.heap.IsTuple q1 its.toArray from pt1).at fun o e => hk _ o e, (show s2.heap.IsTuple q2 its2.toArray from pt2).at fun o e => hk _ o e, .inl ⟨hz, _, _, hTO⟩⟩ hz hsz fun h'' tk acc c hk2 hS hacc => ?_
  have keep : ∀ b o, s2.heap.get? b = some o → h''.get? b = some o := fun b o e => hk2 b o (Heap.lt_size e) (hk b o e)
  have lsz : its.toArray.size = ss.length := by rw [List.size_toArray, l1]
  rw [lsz] at hacc
  have lacc : acc.toList.length = ss.length := by rw [Array.length_toList, hacc.1]
  -- the addresses of what came out
  let adr : Value → Addr := fun v => match v with | .ref T => T | _ => 0
  let cs : List V := acc.toList.map fun v => V.ref (adr v)
  have hcs : ∀ (j : Nat) (v : V), cs[j]? = some v → ∃ T s1 s2' t1 t2, v = .ref T ∧ s2.heap.objs.size + 5 < T ∧ ss[j]? = some s1 ∧ rs[j]? = some s2' ∧ acc.toList[j]? = some (.ref T) ∧ IsTupOf2 h'' T (.str s1 t1) (.str s2' t2) := by
    intro j v e
    rw [List.getElem?_map] at e
    cases e2 : acc.toList[j]? with
    | none => rw [e2] at e; cases e
    | some u =>
      rw [e2] at e
      obtain ⟨T, x1, x2, eu, hT, g1, g2, g3⟩ := hacc.2 j u (by rw [← Array.getElem?_toList]; exact e2)
      subst eu
      cases e
      obtain ⟨s1, t1, k1, rfl⟩ := strs_at rv1 (by simpa using g1)
      obtain ⟨s2', t2, k2, rfl⟩ := strs_at rv2 (by simpa using g2)
      exact ⟨T, s1, s2', t1, t2, rfl, hT, k1, k2, rfl, g3⟩
  let H2 : Hp := fun b => if b < s2.heap.objs.size then H1 b else if b = s2.heap.objs.size + 5 then some (.lst cs) else if hx : ∃ z : Str × Str × Tok × Tok, IsTupOf2 h'' b (.str z.1 z.2.2.1) (.str z.2.1 z.2.2.2) then some (.tup [.str (Classical.choose hx).1, .str (Classical.choose hx).2.1]) else none
  have H2l : H2 (s2.heap.objs.size + 5) = some (.lst cs) := by
    show (if _ then _ else _) = _
    rw [if_neg (by delta Addr at *; omega), if_pos rfl]
  have H2t : ∀ T s1 s2' t1 t2, s2.heap.objs.size + 5 < T → IsTupOf2 h'' T (.str s1 t1) (.str s2' t2) → H2 T = some (.tup [.str s1, .str s2']) := by
    intro T s1 s2' t1 t2 hT ht
    have hx : ∃ z : Str × Str × Tok × Tok, IsTupOf2 h'' T (.str z.1 z.2.2.1) (.str z.2.1 z.2.2.2) := ⟨(s1, s2', t1, t2), ht⟩
    show (if _ then _ else _) = _
    rw [if_neg (by delta Addr at *; omega), if_neg (by delta Addr at *; omega), dif_pos hx]
    have hc := Classical.choose_spec hx
    have e3 := ht.symm.trans hc
    simp only [Option.some.injEq, Obj.mk.injEq, PySem.Data.seq.injEq] at e3
    have e4 := e3.2.2.1.1
    have e5 : #[Value.str s1 t1, Value.str s2' t2].toList = #[Value.str (Classical.choose hx).1 (Classical.choose hx).2.2.1, Value.str (Classical.choose hx).2.1 (Classical.choose hx).2.2.2].toList := congrArg Array.toList e4
    simp only [List.cons.injEq, Value.str.injEq] at e5
    rw [← e5.1.1, ← e5.2.1.1]
  have I3 : Inv X pins σ H2 { s2 with heap := h'', toks := tk } := by
    refine laidF I2 keep H2 (fun b hb => if_pos hb) fun b o hb eo => ?_
    have eo' := eo
    change (if b < s2.heap.objs.size then H1 b else if b = s2.heap.objs.size + 5 then some (HO.lst cs) else if hx : ∃ z : Str × Str × Tok × Tok, IsTupOf2 h'' b (.str z.1 z.2.2.1) (.str z.2.1 z.2.2.2) then some (HO.tup [.str (Classical.choose hx).1, .str (Classical.choose hx).2.1]) else none) = some o at eo
    rw [if_neg (Nat.not_lt.mpr hb)] at eo
    by_cases e1 : b = s2.heap.objs.size + 5
    · rw [if_pos e1] at eo
      cases eo
      refine ⟨by rw [List.length_map, lacc, sizeLine_eq]; omega, acc.toList, c, ?_, by rw [Array.toArray_toList, e1]; exact hS⟩
      have hrel : ∀ (l : List Value), (∀ v ∈ l, ∃ T, v = .ref T) → Vals (l.map fun v => V.ref (adr v)) l := by
        intro l
        induction l with
        | nil => intro _; exact .nil
        | cons v l ih =>
          intro hl
          refine .cons ?_ (ih fun u hu => hl u (List.mem_cons_of_mem _ hu))
          obtain ⟨T, rfl⟩ := hl v List.mem_cons_self
          rfl
      refine hrel _ fun v hv => ?_
      obtain ⟨j, hj⟩ := List.getElem?_of_mem hv
      obtain ⟨T, _, _, eT, _⟩ := hacc.2 j v (by rw [← Array.getElem?_toList]; exact hj)
      exact ⟨T, eT⟩
    · rw [if_neg e1] at eo
      by_cases hx : ∃ z : Str × Str × Tok × Tok, IsTupOf2 h'' b (.str z.1 z.2.2.1) (.str z.2.1 z.2.2.2)
      · rw [dif_pos hx] at eo
        cases eo
        exact ⟨by show 2 ≤ sizeLine; decide, _, .cons ⟨_, rfl⟩ (.cons ⟨_, rfl⟩ .nil), ⟨_, Classical.choose_spec hx, rfl, _, rfl⟩⟩
      · rw [dif_neg hx] at eo; cases eo
  refine ⟨.ref (s2.heap.objs.size + 5), H2, I3, rfl, q _ cs H2 (fun b o e => ?_) (I2.hok.fresh (by delta Addr at *; omega)) H2l (by rw [List.length_map, lacc]) fun j v e => ?_⟩
  · show (if _ then _ else _) = _
    rw [if_pos (I2.hok.lt e)]; exact e
  · obtain ⟨T, s1, s2', t1, t2, ev, hT, k1, k2, _, ht⟩ := hcs j v e
    exact ⟨T, s1, s2', ev, k1, k2, H2t T s1 s2' t1 t2 hT ht⟩
end
end Kb

set_option Elab.async false
set_option linter.all false
set_option maxRecDepth 100000
set_option maxHeartbeats 8000000
/-! What fewest_splits leans on: zip of two tuples, rows as keys, rows as data. -/
namespace Kb
open PySem PySem.Spec PyProof.Rows L2 Evl
open Ka (Nm Res Mk Tr)
theorem brd_zipTT {P : Program} {w : World} {K : PySem.W.Frag} {a b : Addr} {N : Nat} {xs ys : List V} (ha : a < N) (hb : b < N) :
    Brd P w K (fun H => SqT K H a xs ∧ SqT K H b ys) (min xs.length ys.length) (fun i => xs.getD i .non) (fun i => ys.getD i .non) (N + 4) [N + 4, N + 2, N + 3, N, N + 1]
      (fun i h => (IsZip h (N + 4) (N + 2) (N + 3) .none ∧ IsTupOf2 h (N + 2) (.ref N) (.ref (N + 1)) ∧ (∃ a1 a2, IsTupOf2 h (N + 3) a1 a2)) ∧ h.IsTupleIter N a i ∧ h.IsTupleIter (N + 1) b i) where
  go := by
    intro X hP hw hK hc i pins s σ H I lt st hg
    subst hP hw hK
    obtain ⟨hz, h1, h2⟩ := st
    obtain ⟨its, rv, p, _⟩ := I.tuple hg.1
    obtain ⟨its2, rv2, p2, _⟩ := I.tuple hg.2
    have D1 := Draws.tuple (prog := X.prog) (w := X.w) (A := X.A.in1) (I.ok.hd hc) N a (Nat.ne_of_lt ha) its.toArray
    have D2 := Draws.tuple (prog := X.prog) (w := X.w) (A := X.A.in1) (I.ok.hd hc) (N + 1) b (Nat.ne_of_lt (Nat.lt_succ_of_lt hb)) its2.toArray
    rw [show its.toArray.size = xs.length by rw [List.size_toArray, rv.length]] at D1
    rw [show its2.toArray.size = ys.length by rw [List.size_toArray, rv2.length]] at D2
    have S := zip_sep2 (N := N) (fp1 := [a]) (fp2 := [b]) (fun c hc => by rw [List.mem_singleton.mp hc]; exact ha) (fun c hc => by rw [List.mem_singleton.mp hc]; exact hb)
    refine ⟨_, _, _, _, _, fun c hc => ?_, WalksT.zipD2 S D1 D2, ⟨hz.1, hz.2.1, hz.2.2, ⟨h1, p⟩, h2, p2⟩, fun h hs => ⟨⟨hs.1, hs.2.1, hs.2.2.1⟩, hs.2.2.2.1.1, hs.2.2.2.2.1⟩, fun vals hlt hp => ?_⟩
    · simp only [List.mem_cons, List.not_mem_nil, or_false] at hc ⊢
      rcases hc with z | z | z | z
      · exact .inl z
      · exact .inr (.inr (.inl z))
      · exact .inr (.inr (.inr (.inl z)))
      · exact .inr (.inr (.inr (.inr z)))
    · obtain ⟨v1, v2, e1, e2, rfl⟩ := hp
      exact .cons (vals_get rv (getD_of (by omega)) (by simpa using e1)) (.cons (vals_get rv2 (getD_of (by omega)) (by simpa using e2)) .nil)
def iZipTT (K : PySem.W.Frag) (ta : TA) : TI := fun σ H R => ta σ H fun vs H1 => ∃ a b xs ys, vs = [.ref a, .ref b] ∧ SqT K H1 a xs ∧ SqT K H1 b ys ∧ R (Itp (fun H => SqT K H a xs ∧ SqT K H b ys) (min xs.length ys.length) (fun i => xs.getD i .non) (fun i => ys.getD i .non)) H1
theorem pi_zipTT {X : Cx} {e e2 : Expr} {ta : TA} {p pos tpos : Pos} {elts : List Expr} {kk : Nat} (hg : Gl X "zip") (hm : X.mg "zip" = none) (ha : PA X [e, e2] ta)
    (hs : starEach [e, e2] X.env = (false, eval e X.env) :: starEach [e2] X.env := by rfl) (hpl : (backTo pos (starEach [e2] X.env)).any (·.1) = false := by rfl) :
    PI X (.Tuple elts kk tpos) (.Call (.Name "zip" p) [e, e2] [] pos) (iZipTT X.K ta) := by
  refine ⟨fun pins s σ H R I h => ?_⟩
  refine Call_ (ld_blt I hg hm PyProof.Rows.boot_zip (PyProof.Rows.callWith_type1 (thn (ha.run pos pins s σ H _ I h) fun us s1 ⟨vs, H1, I1, r1, q1⟩ => ?_) hs hpl))
  obtain ⟨a, b, xs, ys, ex, hqx, hqy, q⟩ := q1
  subst ex
  cases r1 with
  | cons r rr =>
    cases rr with
    | cons r' rr =>
      cases rr
      cases r
      cases r'
      obtain ⟨its, rv, p1, _⟩ := I1.tuple hqx
      obtain ⟨its2, rv2, p2, _⟩ := I1.tuple hqy
      have la : a < s1.heap.objs.size := by obtain ⟨o, ho, _⟩ := id p1; exact Heap.lt_size ho
      have lb : b < s1.heap.objs.size := by obtain ⟨o, ho, _⟩ := id p2; exact Heap.lt_size ho
      refine zip_begins2 (begins_tuple a its.toArray) (begins_tuple b its2.toArray) p1 p2 fun h' hz hTI hTO h1 h2 hsz hk => wpAny_pyIter_zip hz ?_
      have I2 : Inv X pins σ H1 { s1 with heap := h' } := I1.kept (t' := s1.toks) hk
      refine ⟨s1.heap.objs.size + 4, [s1.heap.objs.size + 4, s1.heap.objs.size + 2, s1.heap.objs.size + 3, s1.heap.objs.size, s1.heap.objs.size + 1], _, _, H1, rfl, I2, turn_p (brd_zipTT la lb) (by simp) ?_ ?_ ?_, ⟨⟨hz, hTI, _, _, hTO⟩, ⟨_, h1, rfl, rfl⟩, ⟨_, h2, rfl, rfl⟩⟩, fun c hcm => ?_, q⟩
      · rintro i h ⟨⟨z1, z2, a1, a2, z3⟩, ⟨o, ho, hc, hd⟩, ⟨o', ho', hc', hd'⟩⟩ c hcm
        simp only [List.mem_cons, List.not_mem_nil, or_false] at hcm
        rcases hcm with z | z | z | z | z
        · rw [z]; exact ⟨_, z1, fun v q => nomatch q⟩
        · rw [z]; exact ⟨_, z2, fun v q => nomatch q⟩
        · rw [z]; exact ⟨_, z3, fun v q => nomatch q⟩
        · rw [z]; exact ⟨o, ho, fun v q => by rw [hd] at q; cases q⟩
        · rw [z]; exact ⟨o', ho', fun v q => by rw [hd'] at q; cases q⟩
      · rintro i h h2 ⟨⟨z1, z2, a1, a2, z3⟩, h5, h6⟩ k
        exact ⟨⟨k _ (by simp) _ z1, k _ (by simp) _ z2, a1, a2, k _ (by simp) _ z3⟩, h5.at fun o e => k _ (by simp) o e, h6.at fun o e => k _ (by simp) o e⟩
      · rintro A i s Q E ⟨⟨z1, _⟩, _⟩ h
        exact wpAny_pyIter_zip z1 h
      · have hle : s1.heap.objs.size ≤ c := by
          simp only [List.mem_cons, List.not_mem_nil, or_false] at hcm
          rcases hcm with z | z | z | z | z
          · rw [z]; exact Nat.le_add_right _ _
          · rw [z]; exact Nat.le_add_right _ _
          · rw [z]; exact Nat.le_add_right _ _
          · rw [z]; exact Nat.le_refl _
          · rw [z]; exact Nat.le_add_right _ _
        exact I1.fpOk hle (I1.hok.fresh hle)
/-! ### rows -/
/-- a row of outcomes, as texts -/
def rwS (bs : List Bool) : List Str := bs.map outS
theorem outS_inj {b c : Bool} (h : outS b = outS c) : b = c := by revert h; cases b <;> cases c <;> decide +kernel
theorem rwS_inj {bs cs : List Bool} (h : rwS bs = rwS cs) : bs = cs := List.map_inj_right (fun _ _ => outS_inj) |>.mp h
def rwK (bs : List Bool) : NK := .tup (bs.map fun b => .text (outS b))
theorem rwK_inj {bs cs : List Bool} (h : rwK bs = rwK cs) : bs = cs := by
  unfold rwK at h
  refine (List.map_inj_right (fun a b e => ?_)).mp (NestedKey.tup.inj h)
  exact outS_inj (NestedKey.text.inj e)
theorem nested_txts {h : Heap} : ∀ {bs : List Bool} {its : List Value}, Vals ((rwS bs).map V.str) its → NestedAll h (bs.map fun b => .text (outS b)) its
  | [], _, r => by cases r; exact .nil
  | b :: bs, _, r => by
    cases r with
    | cons r1 r2 =>
      obtain ⟨t, rfl⟩ := r1
      exact .cons (.text _ _) (nested_txts r2)
theorem dep_txts : ∀ bs : List Bool, NestedKey.depthAll (bs.map fun b => NestedKey.text (outS b)) = 0
  | [] => rfl
  | b :: bs => by
    rw [List.map_cons]
    have := dep_txts bs
    simp only [NestedKey.depthAll, NestedKey.depth, this]; rfl
theorem nested_row {X : Cx} {pins : List (Addr × Obj)} {σ : L2.St} {H : Hp} {s : Shared} {a : Addr} {bs : List Bool} (I : Inv X pins σ H s) (h : SqT X.K H a ((rwS bs).map V.str)) : NestedIs s.heap (rwK bs) (.ref a) := by
  obtain ⟨its, r, ⟨o, ho, hc, n, hd⟩, _⟩ := I.tuple h
  exact .tup ho hc hd (by simpa using nested_txts r)
theorem kat_row {X : Cx} {H : Hp} {a : Addr} {bs : List Bool} (h : SqT X.K H a ((rwS bs).map V.str)) : KAt X H (rwK bs) a := by
  refine ⟨?_, fun pins σ s I => nested_row I h⟩
  unfold rwK
  simp only [NestedKey.depth, dep_txts]; decide
theorem kat_rows {X : Cx} {H : Hp} {a q1 q2 : Addr} {bs cs : List Bool} (h : SqT X.K H a [.ref q1, .ref q2]) (h1 : SqT X.K H q1 ((rwS bs).map V.str)) (h2 : SqT X.K H q2 ((rwS cs).map V.str)) : KAt X H (.tup [rwK bs, rwK cs]) a := by
  refine ⟨?_, fun pins σ s I => ?_⟩
  · unfold rwK
    simp only [NestedKey.depth, NestedKey.depthAll, dep_txts]; decide
  · obtain ⟨its, r, ⟨o, ho, hc, n, hd⟩, _⟩ := I.tuple h
    obtain ⟨u1, u2, rfl, r1, r2⟩ := Vals.two r
    obtain rfl : u1 = Value.ref q1 := r1
    obtain rfl : u2 = Value.ref q2 := r2
    exact .tup ho hc hd (.cons (nested_row I h1) (.cons (nested_row I h2) .nil))
/-- a row as data -/
def rwD (bs : List Bool) : PyData := .tuple (bs.map fun b => .str (outS b))
theorem rwD_lay (bs : List Bool) : (rwD bs).canLay0 = true := by
  unfold rwD
  simp only [PyData.canLay0]
  induction bs with
  | nil => rfl
  | cons b bs ih =>
    rw [List.map_cons]
    simp only [PyData.canLayAll0, PyData.canLay0, ih, Bool.and_true]
    cases b <;> decide +kernel
theorem rwD_dep (bs : List Bool) : (rwD bs).depth = 1 := by
  unfold rwD
  simp only [PyData.depth]
  have : PyData.depthAll (bs.map fun b => PyData.str (outS b)) = 0 := by
    induction bs with
    | nil => rfl
    | cons b bs ih => rw [List.map_cons]; simp only [PyData.depthAll, PyData.depth, ih]; rfl
  rw [this]
theorem rwD_dp {K : PySem.W.Frag} {H : Hp} {a : Addr} {bs : List Bool} (h : SqT K H a ((rwS bs).map V.str)) : Dp K H (.ref a) (rwD bs) := by
  refine .tup h ?_
  unfold rwS
  rw [List.map_map]
  clear h
  induction bs with
  | nil => exact .nil
  | cons b bs ih => exact .cons (.str _) ih
theorem rows_lay : ∀ bss : List (List Bool), PyData.canLayAll0 (bss.map rwD) = true
  | [] => rfl
  | b :: bss => by rw [List.map_cons]; simp only [PyData.canLayAll0, rwD_lay, rows_lay bss, Bool.and_true]
theorem rows_dep : ∀ bss : List (List Bool), PyData.depthAll (bss.map rwD) ≤ 1
  | [] => Nat.zero_le _
  | b :: bss => by
    rw [List.map_cons]
    simp only [PyData.depthAll, rwD_dep]
    have := rows_dep bss
    omega
theorem parts_shaped (b1 b2 : List (List Bool)) : SeqAt.shaped (.list [.list (b1.map rwD), .list (b2.map rwD)]) = true := by
  unfold SeqAt.shaped
  rw [Bool.and_eq_true]
  have h1 := rows_dep b1
  have h2 := rows_dep b2
  refine ⟨by simp [PyData.canLay0, PyData.canLayAll0, rows_lay], decide_eq_true ?_⟩
  simp only [PyData.depth, PyData.depthAll]
  omega
theorem list_eqv_nil (ds : List PyData) : PyData.eqv (.list ds) (.list []) = ds.isEmpty := by
  cases ds <;> simp [PyData.eqv, PyData.eqvAll]
theorem cols_of {H : Hp} : ∀ (cs : List V) (bs1 bs2 : List Bool), cs.length = bs1.length → bs1.length = bs2.length →
    (∀ (j : Nat) (v : V), cs[j]? = some v → ∃ T s1 s2, v = .ref T ∧ (rwS bs1)[j]? = some s1 ∧ (rwS bs2)[j]? = some s2 ∧ H T = some (.tup [.str s1, .str s2])) →
    ∃ ks : List (Addr × Bool × Bool), cs = ks.map (fun p => V.ref p.1) ∧ ks.map (·.2) = bs1.zip bs2 ∧ ∀ p ∈ ks, H p.1 = some (.tup [.str (outS p.2.1), .str (outS p.2.2)])
  | [], [], [], _, _, _ => ⟨[], rfl, rfl, fun p hp => (by cases hp)⟩
  | c :: cs, b1 :: bs1, b2 :: bs2, h1, h2, h => by
    obtain ⟨T, s1, s2, rfl, e1, e2, hT⟩ := h 0 c rfl
    cases e1
    cases e2
    obtain ⟨ks, k1, k2, k3⟩ := cols_of cs bs1 bs2 (by simpa using h1) (by simpa using h2) fun j v e => by
      obtain ⟨T, s1, s2, g1, g2, g3, g4⟩ := h (j + 1) v (by simpa using e)
      exact ⟨T, s1, s2, g1, by simpa [rwS] using g2, by simpa [rwS] using g3, g4⟩
    refine ⟨(T, b1, b2) :: ks, by rw [k1]; rfl, by simp [k2], fun p hp => ?_⟩
    rcases List.mem_cons.mp hp with rfl | hp
    · exact hT
    · exact k3 p hp
end Kb

set_option Elab.async false
set_option linter.all false
set_option maxRecDepth 100000
set_option maxHeartbeats 8000000
/-! fewest_splits. -/
namespace Kb
open PySem PySem.Spec PyProof.Rows L2 Evl
open Ka (Nm Res Mk Tr)
theorem perm2 {α : Type} {l : List α} {a b : α} (h : l.Perm [a, b]) : l = [a, b] ∨ l = [b, a] := by
  have hl := h.length_eq
  match l, hl with
  | [x, y], _ =>
    have hx : x ∈ [a, b] := h.mem_iff.mp List.mem_cons_self
    rcases List.mem_cons.mp hx with rfl | hx
    · have := (List.perm_cons x).mp h
      have := List.perm_singleton.mp this
      exact .inl (by rw [List.cons.inj this |>.1])
    · obtain rfl := List.mem_singleton.mp hx
      have := (List.perm_cons x).mp (h.trans (List.Perm.swap x a []))
      have := List.perm_singleton.mp this
      exact .inr (by rw [List.cons.inj this |>.1])
theorem perm1 {α : Type} {l : List α} {a : α} (h : l.Perm [a]) : l = [a] := List.perm_singleton.mp h
section
variable {P : Program} {w : World} {K : PySem.W.Frag} {mg : Str → Option Value} {base : Heap} {a : Ad}
def spSplit1 (K : PySem.W.Frag) : Sp := fun vs H Q _ => ∃ (R r : Addr) (kn : V) (bs : List Bool), vs = [.ref R, kn] ∧ H R = some (.lst [.ref r]) ∧ SqT K H r ((rwS bs).map V.str) ∧ bs ≠ [] ∧ ∀ H', Ex H H' → Q (.int 0) H'
theorem rwS_ne {bs : List Bool} (h : bs ≠ []) : rwS bs ≠ [] := fun e => h (List.map_eq_nil_iff.mp e)
theorem ok_split1 (T : Tx K mg a) : C8.Cal P w K mg base 1 "fewest_splits" (spSplit1 K) [] := by
  refine cal_of T.dSplits scSplits (fun vs H Q E h => ?_) (fun f cdv A outer s H vs Q E hr h => ?_)
  · obtain ⟨_, _, _, _, rfl, _⟩ := h; rfl
  · obtain ⟨R, r, kn, bs, rfl, hR, hr1, hne, k⟩ := h
    have nd := scSplits.nd
    refine ⟨_, pss_cons (ps_set (i := 2) nd rfl (Or.inr rfl) (pe_tupleOf (by rfl) T.b_tuple (pe_callB (cr_sortU hr.units) (by rfl) T.b_sorted PyProof.Rows.boot_sorted (pa_cons (pv 0) pa_nil))))
      (pss_cons (ps_if (pt_cmpR op_lt (pe_callB call_len_seq (by rfl) T.b_len PySem.boot_len (pa_cons (pv 2) pa_nil)) pe_int (nomark _)) (pss_one (ps_ret pe_int)) pss_nil) pss_never), ?_⟩
    refine ⟨_, rfl, R, [(r, rwS bs)], rfl, SqL.of hR, by show 1 ≤ 1000; decide, ?_, fun L' p pm hp => .inl ⟨p, _, rfl, SqL.of upd_same, fun z hz => ?_⟩⟩
    · intro p hp
      obtain rfl := List.mem_singleton.mp hp
      exact ⟨hr1, rwS_ne hne⟩
    obtain rfl := perm1 pm
    exact ⟨_, rfl, z, _, rfl, .inr (SqT.of upd_same), _, _, rfl, rfl, true, rfl, iteT (k _ ((Ex.new hp).trans (Ex.new hz)))⟩
def spSplit2 (P : Program) (w : World) (K : PySem.W.Frag) : Sp := fun vs H Q _ => ∃ (R r1 r2 kn : Addr) (bs1 bs2 : List Bool), vs = [.ref R, .ref kn] ∧ H R = some (.lst [.ref r1, .ref r2]) ∧ SqT K H r1 ((rwS bs1).map V.str) ∧ SqT K H r2 ((rwS bs2).map V.str) ∧ bs1.length = bs2.length ∧ bs1.length ≤ 1000 ∧ bs1 ≠ bs2 ∧
  H kn = some (DkO P w kn []) ∧ ∀ H', Ek kn H H' → Q (.int 1) H'
/-- the columns -/
def colS (p : Bool × Bool) : List Str := [outS p.1, outS p.2]
def colAll : List (List Str) := [colS (true, true), colS (true, false), colS (false, true), colS (false, false)]
theorem col_in (p : Bool × Bool) : colS p ∈ colAll := by
  obtain ⟨b, c⟩ := p
  cases b <;> cases c <;> simp [colAll]
theorem colS_inj {p q : Bool × Bool} (h : colS p = colS q) : p = q := by
  obtain ⟨b, c⟩ := p
  obtain ⟨b', c'⟩ := q
  unfold colS at h
  simp only [List.cons.injEq, and_true] at h
  rw [outS_inj h.1, outS_inj h.2]
/-- what a side of a column takes -/
def sideV (q1 q2 : Addr) (p : Bool × Bool) (sd : Bool) (i : Nat) : List V := (if 1 ≤ i ∧ p.1 = sd then [.ref q1] else []) ++ (if 2 ≤ i ∧ p.2 = sd then [.ref q2] else [])
def sideB (c1 c2 : List Bool) (p : Bool × Bool) (sd : Bool) : List (List Bool) := (if p.1 = sd then [c1] else []) ++ (if p.2 = sd then [c2] else [])
theorem side_dp {K : PySem.W.Frag} {H : Hp} {q1 q2 : Addr} {c1 c2 : List Bool} (h1 : SqT K H q1 ((rwS c1).map V.str)) (h2 : SqT K H q2 ((rwS c2).map V.str)) (p : Bool × Bool) (sd : Bool) : DpAll K H (sideV q1 q2 p sd 2) ((sideB c1 c2 p sd).map rwD) := by
  obtain ⟨b, c⟩ := p
  cases b <;> cases c <;> cases sd <;> simp [sideV, sideB] <;> first | exact .nil | exact .cons (rwD_dp h1) .nil | exact .cons (rwD_dp h2) .nil | exact .cons (rwD_dp h1) (.cons (rwD_dp h2) .nil)
theorem zip_ne {bs1 bs2 : List Bool} (hl : bs1.length = bs2.length) (h : bs1 ≠ bs2) : ∃ p ∈ bs1.zip bs2, p.1 ≠ p.2 := by
  induction bs1 generalizing bs2 with
  | nil => cases bs2 with
    | nil => exact absurd rfl h
    | cons b bs2 => simp at hl
  | cons b bs1 ih => cases bs2 with
    | nil => simp at hl
    | cons c bs2 =>
      by_cases e : b = c
      · subst e
        obtain ⟨p, hp, hn⟩ := ih (bs2 := bs2) (by simpa using hl) (fun z => h (by rw [z]))
        exact ⟨p, List.mem_cons_of_mem _ hp, hn⟩
      · exact ⟨(b, c), List.mem_cons_self, e⟩
end
end Kb

set_option Elab.async false
set_option linter.all false
set_option maxRecDepth 100000
set_option maxHeartbeats 8000000
/-! fewest_splits of two rows. -/
namespace Kb
open PySem PySem.Spec PyProof.Rows L2 Evl
open Ka (Nm Res Mk Tr)
section
variable {P : Program} {w : World} {K : PySem.W.Frag} {mg : Str → Option Value} {base : Heap} {a : Ad}
theorem cr_setU' {X : Cx} (hp : X.prog = P) (hw : X.w = w) (hc : X.calm = true) (hu : X.A.units + 64 < cLine) : CallR X (.type "set") (rSetU X.K P w) := by subst hp hw; exact cr_setU hc hu
theorem cr_sortedU' {X : Cx} (hp : X.prog = P) (hw : X.w = w) (hc : X.calm = true) (hu : X.A.units + 64 < cLine) : CallR X (.builtin "sorted") (rSortedU X.K P w) := by subst hp hw; exact cr_sortedU hc hu
/-- how good the best is behind some columns -/
def bestOf (L : List (Addr × List Str)) (i : Nat) : Int := if (L.take i).any (fun p => decide (p.2 = colS (true, false)) || decide (p.2 = colS (false, true))) then 1 else 2
theorem bestOf_succ {L : List (Addr × List Str)} {i : Nat} {q : Addr × List Str} (h : L[i]? = some q) : bestOf L (i + 1) = if (decide (q.2 = colS (true, false)) || decide (q.2 = colS (false, true))) = true then 1 else bestOf L i := by
  unfold bestOf
  rw [take_some h, List.any_append]
  by_cases g : (decide (q.2 = colS (true, false)) || decide (q.2 = colS (false, true))) = true
  · rw [if_pos g, if_pos]
    rw [Bool.or_eq_true]; right
    simpa using g
  · rw [if_neg g]
    have g2 : (decide (q.2 = colS (true, false)) || decide (q.2 = colS (false, true))) = false := by simpa using g
    have : ([q].any fun p => decide (p.2 = colS (true, false)) || decide (p.2 = colS (false, true))) = false := by simpa using g2
    rw [this, Bool.or_false]
theorem bestOf_or (L : List (Addr × List Str)) (i : Nat) : bestOf L i = 1 ∨ bestOf L i = 2 := by
  unfold bestOf; split <;> simp
theorem sqt_upd {K : PySem.W.Frag} {H : Hp} {q kn : Addr} {xs : List V} {f : Heap → Prop} {o : HO} (h : SqT K H q xs) (hk : H kn = some (.ext f)) : SqT K (upd H kn o) q xs := by
  rcases h with (h | ⟨u, h⟩) | h
  · exact .inl (.inl (by rw [upd_ne (ne_of h hk (by intro z; cases z))]; exact h))
  · exact .inl (.inr ⟨u, by rw [upd_ne (ne_of h hk (by intro z; cases z))]; exact h⟩)
  · exact .inr h
theorem col_diff : ∀ b c : Bool, b ≠ c → (decide (colS (b, c) = colS (true, false)) || decide (colS (b, c) = colS (false, true))) = true := by
  intro b c
  cases b <;> cases c <;> first | (intro h; exact absurd rfl h) | (intro _; decide +kernel)
theorem sw_eq (b c : Bool) : decide (V.str (outS b) = .str (outS c)) = decide (b = c) := out_ne b c
set_option maxHeartbeats 32000000 in
theorem ok_split2 (T : Tx K mg a) : C8.Cal P w K mg base 2 "fewest_splits" (spSplit2 P w K) [] := by
  refine cal_of T.dSplits scSplits (fun vs H Q E h => ?_) (fun f cdv A outer s H vs Q E hr h => ?_)
  · obtain ⟨_, _, _, _, _, _, rfl, _⟩ := h; rfl
  · obtain ⟨R, r1, r2, kn, bs1, bs2, rfl, hR, hr1, hr2, hl, hl2, hne, hkn, k⟩ := h
    have nd := scSplits.nd
    have hu := hr.units
    have hu65 : (A.deeper (envOfC "fewest_splits" (C8.fnScope sSplits) s.heap.objs.size f cdv)).units + 65 < cLine := by have := hr.un; omega
    refine ⟨_, pss_cons (ps_set (i := 2) nd rfl (Or.inr rfl) (pe_tupleOf (by rfl) T.b_tuple (pe_callB (cr_sortU hu) (by rfl) T.b_sorted PyProof.Rows.boot_sorted (pa_cons (pv 0) pa_nil))))
      (pss_cons (ps_if (pt_cmpR op_lt (pe_callB call_len_seq (by rfl) T.b_len PySem.boot_len (pa_cons (pv 2) pa_nil)) pe_int (nomark _)) (pss_one (ps_ret pe_int)) pss_nil)
      (pss_cons (ps_if (pt_cmpR (op_notInN hu) (pv 2) (pv 1) (by rfl))
        (pss_cons (ps_set (i := 3) nd rfl (Or.inl rfl) (pe_callB call_len_seq (by rfl) T.b_len PySem.boot_len (pa_cons (pv 2) pa_nil)))
        (pss_cons (ps_set (i := 4) nd rfl (Or.inl rfl) (pe_lzip (by rfl) (by rfl) T.b_list (by rfl) T.b_zip (pv 2)))
        (pss_cons (ps_for PassesOwn.never rfl (pi_list (pe_callB (cr_sortedU' (P := P) (w := w) rfl rfl rfl hu) (by rfl) T.b_sorted PyProof.Rows.boot_sorted (pa_cons (pe_callTy (cr_setU' (P := P) (w := w) rfl rfl rfl hu) (by rfl) T.b_set PyProof.Rows.boot_set (pa_cons (pv 4) pa_nil)) pa_nil))) (pg_name (i := 5) nd rfl (Or.inr rfl))
          (pss_cons (ps_setLc (i := 6) (own := [("side", 7)]) (g := gName 7) (tt := tYes) (te := tLc (iZipTT K (tCons (tVar 2) (tCons (tVar 5) tNil))) (gTup K 2 (gCons (gName 8) (gCons (gName 9) gNil))) (tTest (tOp (rEq) (tVar 9) (tVar 7))) (tVar 8) [8, 9])
              rfl nd rfl rfl (sw_true rfl rfl rfl (by decide +kernel)) (pi_tup (pe_tup (pa_cons (pg T.vIN) (pa_cons (pg T.vOUT) pa_nil)))) (blkOk_by (N := ["rows", "known", "key", "best", "columns", "column", "parts", "side", "row", "word", "part"]) (sc := C8.fnScope sSplits) (by decide +kernel))
              (fun _ _ _ _ _ => pg_name (i := 7) nd rfl (Or.inr rfl)) (fun _ _ _ _ _ => pts_nil)
              (fun _ _ _ _ _ => pe_lc (own := [("row", 8), ("word", 9)]) rfl nd (pi_zipTT (by rfl) T.b_zip (pa_cons (pv 2) (pa_cons (pv 5) pa_nil))) (blkOk_by (N := ["rows", "known", "key", "best", "columns", "column", "parts", "side", "row", "word", "part"]) (by kernel_rfl))
                (fun _ _ _ _ _ => pg_tup rfl (pgs_cons (pg_name (i := 8) nd rfl (Or.inl rfl)) (pgs_cons (pg_name (i := 9) nd rfl (Or.inl rfl)) pgs_nil))) (fun _ _ _ _ _ => pts_one (pt_cmpR op_eq (pv 9) (pv 7) (nomark _))) (fun _ _ _ _ _ => pv 8)))
          (pss_one (ps_if (pt_cmpR (op_notInD hu65) (pe_lst pa_nil) (pv 6) (by rfl))
            (pss_one (ps_set (i := 3) nd rfl (Or.inl rfl) (pe_callB (call_min2 rfl) (by rfl) T.b_min (by decide +kernel) (pa_cons (pv 3) (pa_cons (pe_op op_add pe_int (pe_callB (cr_max rfl) (by rfl) T.b_max (by decide +kernel)
              (pa_cons (pe_lc (own := [("part", 10)]) (g := gName 10) (tt := tYes) (te := tCall (spSplit1 K) [] C8.E0 (tCons (tVar 10) (tCons (tVar 1) tNil))) rfl nd (pi_list (pv 6)) (blkOk_by (N := ["rows", "known", "key", "best", "columns", "column", "parts", "side", "row", "word", "part"]) (sc := C8.fnScope sSplits) (by decide +kernel))
                (fun _ _ _ _ _ => pg_name (i := 10) nd rfl (Or.inl rfl)) (fun _ _ _ _ _ => pts_nil) (fun _ _ _ _ _ => C8.pe_c (ok_split1 T) hr (by decide) (by rfl) (pa_cons (pv 10) (pa_cons (pv 1) pa_nil)))) pa_nil))) pa_nil))))) pss_nil))))
        (pss_one (ps_asg (pv 3) (pg_sub (pv 1) (pv 2) (set_N hu) (by intro v; rfl))))))) pss_nil)
      (pss_one (ps_ret (pe_nget hu (pv 1) (pv 2) (fun _ _ => rfl)))))), ?_⟩
    refine ⟨_, rfl, R, [(r1, rwS bs1), (r2, rwS bs2)], rfl, SqL.of hR, (by show 2 ≤ 1000; decide), ?_, fun L1 p pm hp => .inl ⟨p, _, rfl, SqL.of upd_same, fun z hz => ?_⟩⟩
    · have n1 : bs1 ≠ [] := fun e => hne (by rw [e] at hl ⊢; exact (List.eq_nil_of_length_eq_zero hl.symm).symm)
      have n2 : bs2 ≠ [] := fun e => n1 (by rw [e] at hl; exact List.eq_nil_of_length_eq_zero hl)
      intro p hp
      rcases List.mem_cons.mp hp with rfl | hp
      · exact ⟨hr1, rwS_ne n1⟩
      · obtain rfl := List.mem_singleton.mp hp
        exact ⟨hr2, rwS_ne n2⟩
    obtain ⟨q1, c1, q2, c2, rfl, hq1, hq2, hlc, hlc2, hnc⟩ : ∃ q1 c1 q2 c2, L1 = [(q1, rwS c1), (q2, rwS c2)] ∧ SqT K H q1 ((rwS c1).map V.str) ∧ SqT K H q2 ((rwS c2).map V.str) ∧ c1.length = c2.length ∧ c1.length ≤ 1000 ∧ c1 ≠ c2 := by
      rcases perm2 pm with rfl | rfl
      · exact ⟨_, _, _, _, rfl, hr1, hr2, hl, hl2, hne⟩
      · exact ⟨_, _, _, _, rfl, hr2, hr1, hl.symm, hl ▸ hl2, hne.symm⟩
    have n1 : c1 ≠ [] := fun e => hnc (by rw [e] at hlc ⊢; exact (List.eq_nil_of_length_eq_zero hlc.symm).symm)
    have n2 : c2 ≠ [] := fun e => n1 (by rw [e] at hlc; exact List.eq_nil_of_length_eq_zero hlc)
    have e0 : Ex H (upd (upd H p (.lst ([(q1, rwS c1), (q2, rwS c2)].map fun q => V.ref q.1))) z (.tup ([(q1, rwS c1), (q2, rwS c2)].map fun q => V.ref q.1))) := (Ex.new hp).trans (Ex.new hz)
    have hz0 : (upd (upd H p (.lst ([(q1, rwS c1), (q2, rwS c2)].map fun q => V.ref q.1))) z (.tup ([(q1, rwS c1), (q2, rwS c2)].map fun q => V.ref q.1))) z = some (.tup [.ref q1, .ref q2]) := upd_same
    generalize upd (upd H p (.lst ([(q1, rwS c1), (q2, rwS c2)].map fun q => V.ref q.1))) z (.tup ([(q1, rwS c1), (q2, rwS c2)].map fun q => V.ref q.1)) = H0 at e0 hz0 ⊢
    refine ⟨_, rfl, z, _, rfl, .inr (SqT.of hz0), _, _, rfl, rfl, false, rfl, iteF ?_⟩
    refine ⟨_, rfl, _, rfl, z, kn, .tup [rwK c1, rwK c2], [], rfl, rfl, e0 _ _ hkn, kat_rows (SqT.of hz0) (ex_t e0 hq1) (ex_t e0 hq2), (fun x hx => by cases hx), true, rfl, iteT ?_⟩
    refine ⟨_, rfl, z, _, rfl, .inr (SqT.of hz0), ?_⟩
    refine ⟨_, rfl, z, q1, q2, rwS c1, rwS c2, rfl, SqT.of hz0, ex_t e0 hq1, ex_t e0 hq2, by rw [rwS, rwS, List.length_map, List.length_map]; exact hlc, by rw [rwS, List.length_map]; exact hlc2, fun l cs H1 e1 hln hl1 lcs hcs => ?_⟩
    obtain ⟨ks, k1, k2, k3⟩ := cols_of cs c1 c2 (by rw [lcs, rwS, List.length_map]) hlc hcs
    have hl1' : H1 l = some (.lst ((ks.map fun p => (p.1, colS p.2)).map fun p => V.ref p.1)) := by rw [hl1, k1, List.map_map]; rfl
    have hks : ∀ p ∈ ks.map (fun p => (p.1, colS p.2)), H1 p.1 = some (.tup (p.2.map V.str)) ∧ ∃ pr, p.2 = colS pr := by
      intro p hp
      obtain ⟨p0, hp0, rfl⟩ := List.mem_map.mp hp
      exact ⟨k3 p0 hp0, _, rfl⟩
    refine ⟨_, rfl, l, ks.map (fun p => (p.1, colS p.2)), colAll, rfl, SqL.of hl1', (fun p hp => SqT.of (hks p hp).1), by show 4 ≤ 4; decide, (fun p hp => by obtain ⟨_, pr, e⟩ := hks p hp; rw [e]; exact col_in pr), fun S L hS ndL sub mem => ?_⟩
    refine ⟨S, L, rfl, upd_same, (fun p hp => ⟨SqT.of (Ex.new hS _ _ (hks p (sub p hp)).1), by obtain ⟨_, pr, e⟩ := hks p (sub p hp); rw [e]; simp [colS]⟩), fun L2 p2 pm2 hp2 => ⟨p2, rfl, ⟨_, SqL.of upd_same⟩, ?_⟩⟩
    have e12 : Ex H1 (upd (upd H1 S (SetUO P w S L)) p2 (.lst (L2.map fun q => V.ref q.1))) := (Ex.new hS).trans (Ex.new hp2)
    have hp22 : (upd (upd H1 S (SetUO P w S L)) p2 (.lst (L2.map fun q => V.ref q.1))) p2 = some (.lst (L2.map fun q => V.ref q.1)) := upd_same
    generalize upd (upd H1 S (SetUO P w S L)) p2 (.lst (L2.map fun q => V.ref q.1)) = H2 at e12 hp22 ⊢
    have hL2 : ∀ q ∈ L2, ∃ pr, q.2 = colS pr ∧ H2 q.1 = some (.tup ((colS pr).map V.str)) := by
      intro q hq
      obtain ⟨g1, pr, g2⟩ := hks q (sub q (pm2.mem_iff.mp hq))
      exact ⟨pr, g2, by rw [← g2]; exact e12 _ _ g1⟩
    have e02 := e1.trans e12
    have lm : (L2.map fun q => V.ref q.1).length = L2.length := List.length_map _
    refine for_it walk_list (fun i σ H' => ∃ y5 y6 y7 y8 y9 y10, σ = [some (.ref R), some (.ref kn), some (.ref z), some (.int (bestOf L2 i)), some (.ref l), y5, y6, y7, y8, y9, y10] ∧ Ex H2 H') ⟨none, none, none, none, none, none, rfl, Ex.refl _⟩ (fun i σ H' _ ⟨_, _, _, _, _, _, _, e⟩ => ex_l e (SqL.of hp22)) ?_ ?_
    · rintro i v σ _ H3 hi ⟨y5, y6, y7, y8, y9, y10, rfl, e3⟩ ⟨rfl, hv⟩
      rw [lm] at hi
      obtain ⟨q, hq, rfl⟩ : ∃ q, L2[i]? = some q ∧ v = .ref q.1 := by
        rw [List.getElem?_map, List.getElem?_eq_getElem hi] at hv
        exact ⟨_, List.getElem?_eq_getElem hi, (Option.some.inj hv).symm⟩
      obtain ⟨pr, hpr, hqc⟩ := hL2 q (List.mem_of_getElem? hq)
      have hqc3 := e3 _ _ hqc
      have hz3 := e3 _ _ (e02 _ _ hz0)
      refine ⟨by show 2 ≤ sizeLine; decide, fun t ht => ⟨t, rfl, ⟨_, SqT.of upd_same⟩, fun D hD => ?_⟩⟩
      have e4 : Ex H3 (upd H3 t (.tup [.str "in", .str "out"])) := Ex.new ht
      have ht4 : (upd H3 t (.tup [.str "in", .str "out"])) t = some (.tup [.str "in", .str "out"]) := upd_same
      generalize upd H3 t (.tup [.str "in", .str "out"]) = H4 at e4 ht4 hD ⊢
      refine lc_it (walk_tup (xs := [.str "in", .str "out"])) (fun j H' => Ex H4 H' ∧ ∃ acc, H' D = some (.lst acc) ∧ acc.length = j ∧ ∀ (m : Nat) v, acc[m]? = some v → ∃ A, v = .ref A ∧ A ≠ D ∧ H' A = some (.lst (sideV q1 q2 pr (decide (m = 0)) 2))) ⟨Ex.new hD, [], upd_same, rfl, fun m v h => by simp at h⟩ (fun j H' _ ⟨e, _⟩ => ex_t e (SqT.of ht4)) ?_ ?_
      · rintro j x _ H5 hj ⟨e5, acc, hD5, la, hacc⟩ ⟨rfl, hx⟩
        obtain rfl : x = .str (outS (decide (j = 0))) := by
          match j, hj with
          | 0, _ => cases hx; rfl
          | 1, _ => cases hx; rfl
        generalize hsd : decide (j = 0) = sd
        refine ⟨rfl, _, rfl, _, rfl, z, q.1, [.ref q1, .ref q2], (colS pr).map V.str, rfl, SqT.of (e5 _ _ (e4 _ _ hz3)), SqT.of (e5 _ _ (e4 _ _ hqc3)), fun D2 hD2 => ?_⟩
        have hDD2 : D2 ≠ D := fun z => by rw [z, hD5] at hD2; cases hD2
        refine lc_it walk_p (fun r H' => Ex H5 H' ∧ H' D2 = some (.lst (sideV q1 q2 pr sd r))) ⟨Ex.new hD2, by rw [upd_same]; simp [sideV]⟩ (fun r H' _ ⟨e, _⟩ => ⟨SqT.of (e _ _ (e5 _ _ (e4 _ _ hz3))), SqT.of (e _ _ (e5 _ _ (e4 _ _ hqc3)))⟩) ?_ ?_
        · rintro r x H6 _ hr6 ⟨e6, hD6⟩ ⟨tp, rfl, htp, rfl⟩
          have htd : tp ≠ D2 := fun z => by rw [z, hD6] at htp; cases htp
          match r, hr6 with
          | 0, _ =>
            refine ⟨tp, _, rfl, SqT.of upd_same, rfl, _, _, rfl, _, _, rfl, rfl, rfl, _, rfl, _, rfl, rfl, ?_⟩
            show ∃ k, V.bl (decide (V.str (outS pr.1) = .str (outS sd))) = .bl k ∧ _
            rw [sw_eq]
            by_cases h1 : pr.1 = sd
            · rw [decide_eq_true h1]
              refine ⟨true, rfl, iteT ⟨_, rfl, _, by rw [upd_ne htd.symm]; exact hD6, by simp [sideV]; decide, (e6.trans (Ex.new htp)).mut hD2, ?_⟩⟩
              rw [upd_same]; simp [sideV, h1]
            · rw [decide_eq_false h1]
              refine ⟨false, rfl, iteF ⟨e6.trans (Ex.new htp), ?_⟩⟩
              rw [upd_ne htd.symm, hD6]; simp [sideV, h1]
          | 1, _ =>
            refine ⟨tp, _, rfl, SqT.of upd_same, rfl, _, _, rfl, _, _, rfl, rfl, rfl, _, rfl, _, rfl, rfl, ?_⟩
            show ∃ k, V.bl (decide (V.str (outS pr.2) = .str (outS sd))) = .bl k ∧ _
            rw [sw_eq]
            by_cases h1 : pr.2 = sd
            · rw [decide_eq_true h1]
              refine ⟨true, rfl, iteT ⟨_, rfl, _, by rw [upd_ne htd.symm]; exact hD6, ?_, (e6.trans (Ex.new htp)).mut hD2, ?_⟩⟩
              · by_cases h2 : pr.1 = sd <;> simp [sideV, h2] <;> decide
              · rw [upd_same]; by_cases h2 : pr.1 = sd <;> simp [sideV, h1, h2]
            · rw [decide_eq_false h1]
              refine ⟨false, rfl, iteF ⟨e6.trans (Ex.new htp), ?_⟩⟩
              rw [upd_ne htd.symm, hD6]; by_cases h2 : pr.1 = sd <;> simp [sideV, h1, h2]
        · rintro H6 ⟨e6, hD6⟩
          have hD6' : H6 D2 = some (.lst (sideV q1 q2 pr sd 2)) := hD6
          refine ⟨acc, e6 _ _ hD5, by rw [la]; exact sz_lt (by have : j < 2 := hj; omega), (e5.trans e6).mut hD, acc ++ [.ref D2], upd_same, by rw [List.length_append, la]; rfl, fun m v hm => ?_⟩
          by_cases hml : m < acc.length
          · rw [List.getElem?_append_left hml] at hm
            obtain ⟨A, g1, g2, g3⟩ := hacc m v hm
            exact ⟨A, g1, g2, by rw [upd_ne g2]; exact e6 _ _ g3⟩
          · have hml2 := (List.getElem?_eq_some_iff.mp hm).1
            rw [List.length_append, List.length_singleton] at hml2
            have em : m = acc.length := by omega
            subst em
            rw [List.getElem?_append_right (Nat.le_refl _), Nat.sub_self] at hm
            cases hm
            exact ⟨D2, rfl, hDD2, by rw [upd_ne hDD2, la, hsd]; exact hD6'⟩
      · rintro H5 ⟨e5, acc, hD5, la, hacc⟩
        have la2 : acc.length = 2 := la
        obtain ⟨A, B, rfl⟩ : ∃ A B, acc = [.ref A, .ref B] := by
          match acc, la2 with
          | [x, y], _ =>
            obtain ⟨A, g1, _⟩ := hacc 0 x rfl
            obtain ⟨B, g2, _⟩ := hacc 1 y rfl
            exact ⟨A, B, by rw [g1, g2]⟩
        obtain ⟨_, gA, _, hA⟩ := hacc 0 _ rfl
        cases gA
        obtain ⟨_, gB, _, hB⟩ := hacc 1 _ rfl
        cases gB
        have hA' : H5 A = some (.lst (sideV q1 q2 pr true 2)) := hA
        have hB' : H5 B = some (.lst (sideV q1 q2 pr false 2)) := hB
        have e35 := e4.trans e5
        have hq15 : SqT K H5 q1 ((rwS c1).map V.str) := ex_t ((e0.trans e02).trans (e3.trans e35)) hq1
        have hq25 : SqT K H5 q2 ((rwS c2).map V.str) := ex_t ((e0.trans e02).trans (e3.trans e35)) hq2
        refine ⟨by show 0 ≤ sizeLine; decide, fun g hg => ⟨_, rfl, .list [], [.list ((sideB c1 c2 pr true).map rwD), .list ((sideB c1 c2 pr false).map rwD)], .lst (SqL.of upd_same) .nil, ?_, by decide, parts_shaped _ _, ?_⟩⟩
        · exact .lst (SqL.of (Ex.new hg _ _ hD5)) (.cons (.lst (SqL.of (Ex.new hg _ _ hA')) (side_dp (ex_t (Ex.new hg) hq15) (ex_t (Ex.new hg) hq25) pr true)) (.cons (.lst (SqL.of (Ex.new hg _ _ hB')) (side_dp (ex_t (Ex.new hg) hq15) (ex_t (Ex.new hg) hq25) pr false)) .nil))
        have e56 : Ex H5 (upd H5 g (.lst [])) := Ex.new hg
        generalize upd H5 g (.lst []) = H6 at e56 ⊢
        have hb : (!([PyData.list ((sideB c1 c2 pr true).map rwD), .list ((sideB c1 c2 pr false).map rwD)].any fun z => PyData.eqv z (.list []))) = decide (pr.1 ≠ pr.2) := by
          simp only [List.any_cons, List.any_nil, list_eqv_nil]
          obtain ⟨b, c⟩ := pr
          cases b <;> cases c <;> simp [sideB]
        rw [hb]
        have hqpr : (decide (q.2 = colS (true, false)) || decide (q.2 = colS (false, true))) = decide (pr.1 ≠ pr.2) := by
          rw [hpr]
          obtain ⟨b, c⟩ := pr
          cases b <;> cases c <;> decide +kernel
        have hbs := bestOf_succ hq
        rw [hqpr] at hbs
        by_cases hd : pr.1 ≠ pr.2
        · rw [decide_eq_true hd] at hbs ⊢
          rw [if_pos rfl] at hbs
          refine ⟨true, rfl, iteT ?_⟩
          have hside : ∀ sd : Bool, ∃ qq bb, sideV q1 q2 pr sd 2 = [.ref qq] ∧ SqT K H5 qq ((rwS bb).map V.str) ∧ bb ≠ [] := by
            intro sd
            obtain ⟨b, c⟩ := pr
            cases b <;> cases c <;> cases sd <;> first | exact absurd rfl hd | exact ⟨q1, c1, rfl, hq15, n1⟩ | exact ⟨q2, c2, rfl, hq25, n2⟩
          refine ⟨_, rfl, _, rfl, D, rfl, ⟨_, SqL.of (e56 _ _ hD5)⟩, fun D3 hD3 => ?_⟩
          refine lc_it walk_list (fun r H' => Ex H6 H' ∧ H' D3 = some (.lst (List.replicate r (.int 0)))) ⟨Ex.new hD3, upd_same⟩ (fun r H' _ ⟨e, _⟩ => ex_l e (SqL.of (e56 _ _ hD5))) ?_ ?_
          · rintro r x _ H7 hr7 ⟨e7, hD7⟩ ⟨rfl, hx⟩
            have hx2 : ∃ A sd, x = .ref A ∧ H5 A = some (.lst (sideV q1 q2 pr sd 2)) := by
              match r, hr7 with
              | 0, _ => cases hx; exact ⟨_, true, rfl, hA'⟩
              | 1, _ => cases hx; exact ⟨_, false, rfl, hB'⟩
            obtain ⟨A', sd, rfl, hA2⟩ := hx2
            obtain ⟨qq, bb, s1, s2, s3⟩ := hside sd
            rw [s1] at hA2
            refine ⟨rfl, _, rfl, _, rfl, A', qq, .ref kn, bb, rfl, e7 _ _ (e56 _ _ hA2), ex_t (e56.trans e7) s2, s3, fun H8 e8 => ⟨_, e8 _ _ hD7, ?_, (e7.trans e8).mut hD3, ?_⟩⟩
            · rw [List.length_replicate]; exact sz_lt (by have : r < 2 := hr7; omega)
            · rw [upd_same, List.replicate_succ']
          · rintro H7 ⟨e7, hD7⟩
            refine ⟨D3, [0, 0], rfl, SqL.of hD7, by decide, fun m hm _ => ?_⟩
            obtain rfl : m = 0 := by simpa using hm
            refine ⟨_, _, rfl, rfl, _, _, rfl, ?_⟩
            have eb : (if (1 + 0 : Int) < bestOf L2 i then (1 + 0 : Int) else bestOf L2 i) = bestOf L2 (i + 1) := by
              rw [hbs]
              rcases bestOf_or L2 i with e | e <;> rw [e] <;> decide
            rw [eb]
            exact ⟨_, _, _, _, _, _, rfl, (e3.trans e35).trans (e56.trans e7)⟩
        · rw [decide_eq_false hd] at hbs ⊢
          rw [if_neg (by decide)] at hbs
          refine ⟨false, rfl, iteF ⟨_, _, _, _, _, _, by rw [hbs]; rfl, (e3.trans e35).trans e56⟩⟩
    · rintro σ H3 ⟨y5, y6, y7, y8, y9, y10, rfl, e3⟩
      have hbest : bestOf L2 (L2.map fun q => V.ref q.1).length = 1 := by
        rw [lm]
        unfold bestOf
        rw [List.take_of_length_le (Nat.le_refl _), if_pos]
        obtain ⟨pr, hp1, hp2⟩ := zip_ne hlc hnc
        rw [← k2] at hp1
        obtain ⟨p0, hp0, rfl⟩ := List.mem_map.mp hp1
        have m1 : colS p0.2 ∈ L.map (·.2) := (mem _).mpr (by rw [List.map_map]; exact List.mem_map.mpr ⟨p0, hp0, rfl⟩)
        obtain ⟨q, hq, eq⟩ := List.mem_map.mp m1
        refine List.any_eq_true.mpr ⟨q, pm2.mem_iff.mpr hq, ?_⟩
        rw [eq]
        exact col_diff _ _ hp2
      rw [hbest]
      have e03 : Ex H H3 := (e0.trans e02).trans e3
      have hkn3 := e03 _ _ hkn
      have hzT : SqT K H3 z [.ref q1, .ref q2] := SqT.of (e3 _ _ (e02 _ _ hz0))
      have hq13 := ex_t e03 hq1
      have hq23 := ex_t e03 hq2
      refine ⟨_, rfl, _, rfl, _, rfl, kn, z, .tup [rwK c1, rwK c2], [], rfl, rfl, hkn3, kat_rows hzT hq13 hq23, (fun x hx => by cases hx), (by simp), by show 0 ≤ 1000; decide, ?_⟩
      have hkat := kat_rows (X := (cxOf C8.CX0 P w K mg base ["rows", "known", "key", "best", "columns", "column", "parts", "side", "row", "word", "part"] "fewest_splits" (C8.fnScope sSplits) f cdv A outer s H E).nox) (sqt_upd (o := DkO P w kn ([] ++ [(.tup [rwK c1, rwK c2], z, V.int 1)])) hzT hkn3) (sqt_upd hq13 hkn3) (sqt_upd hq23 hkn3)
      refine ⟨_, rfl, _, rfl, kn, z, .tup [rwK c1, rwK c2], [] ++ [(.tup [rwK c1, rwK c2], z, .int 1)], .int 1, rfl, rfl, upd_same, hkat, ?_, ?_, by simp, k _ (fun b o hb ho => by rw [upd_ne hb]; exact e03 b o ho)⟩
      · intro x hx
        obtain rfl : x = (.tup [rwK c1, rwK c2], z, .int 1) := by simpa using hx
        exact hkat
      · intro x hx _
        obtain rfl : x = (.tup [rwK c1, rwK c2], z, .int 1) := by simpa using hx
        rfl
end
end Kb

set_option Elab.async false
set_option linter.all false
set_option maxRecDepth 100000
set_option maxHeartbeats 8000000
/-! list.index where == is known for this program and world alone. -/
namespace PySem.SeqAt
open AutoSeq1 (wpAny_loadPart')
open MeetsSeq MeetsSeq2 MeetsSeq3 SeqRoads2
section
variable {prog : Program} {w : World}
theorem kb_index_loopP (l : Addr) (vs : Array Value) (n : Nat) (dd : Option Addr) (sl : Array (Option Value)) (x : Value) (e : Value → Bool) (upto : Int) (j : Nat) (jlt : j < vs.size) (below : (j : Int) < upto)
    (found : e vs[j] = true) (k : Nat) :
    ∀ i : Nat, j - i = k → i ≤ j → (∀ m (hm : m < vs.size), i ≤ m → m < j → e vs[m] = false) → MeetsIn prog w (Builtin.«list.index.loop» ⟨[.ref l, x, rawInt i, rawInt upto], []⟩)
      (fun A R s => s.heap.get? l = some { cls := .type "list", dict := dd, data := .seq vs n, slots := sl } ∧ (∀ y, y ∈ vs → EqP prog w A.in1 s y x (e y)) ∧ R (.ok (.ret (.int j s.toks))) { s with toks := s.toks + 1 }) := by
  induction k with
  | zero =>
    intro i cnt ile miss A R s h
    obtain ⟨hp, g, d, t0, os⟩ := s; obtain ⟨g0, g1, h⟩ := h
    have eij : i = j := by omega
    subst eij
    wp_walk using (wpAny_loadPart' g0)
    have here : (if (i : Int) < upto then vs[((i : Nat) : Int).toNat]? else none) = some vs[i] := by simp [below, jlt]
    rw [here]
    refine wpAny_bind (g1 _ (Array.getElem_mem jlt) _ _ ?_)
    rw [found]
    wp_walk
    exact h
  | succ k ih =>
    intro i cnt ile miss A R s h
    obtain ⟨hp, g, d, t0, os⟩ := s; obtain ⟨g0, g1, h⟩ := h
    have isz : i < vs.size := by omega
    have ilt : (i : Int) < upto := by omega
    wp_walk using (wpAny_loadPart' g0)
    have here : (if (i : Int) < upto then vs[((i : Nat) : Int).toNat]? else none) = some vs[i] := by simp [ilt, isz]
    have nxt : ((i : Int) + 1) = ((i + 1 : Nat) : Int) := by push_cast; rfl
    rw [here]
    refine wpAny_bind (g1 _ (Array.getElem_mem isz) _ _ ?_)
    rw [miss i isz (Nat.le_refl _) (by omega)]
    wp_walk
    rw [nxt]
    exact ⟨plainId_quiet plain_index_loop _, codeAny_builtin entry_index_loop (by
      rw [Around.under_plainId plain_index_loop _]
      exact ih (i + 1) (by omega) (by omega) (fun m hm h1 h2 => miss m hm (by omega) h2) A R _ ⟨g0, g1, h⟩)⟩
theorem kb_list_indexP (l : Addr) (vs : Array Value) (n : Nat) (dd : Option Addr) (sl : Array (Option Value)) (x : Value) (e : Value → Bool) (j : Nat) (jlt : j < vs.size) (small : (j : Int) < 2 ^ 63 - 1)
    (found : e vs[j] = true) (miss : ∀ m (hm : m < vs.size), m < j → e vs[m] = false) :
    MeetsIn prog w (Builtin.«list.index» ⟨[.ref l, x], []⟩)
      (fun A R s => s.heap.get? l = some { cls := .type "list", dict := dd, data := .seq vs n, slots := sl } ∧ (∀ y, y ∈ vs → EqP prog w A.in1 s y x (e y)) ∧ R (.ok (.ret (.int j s.toks))) { s with toks := s.toks + 1 }) := by
  intro A R s h
  obtain ⟨hp, g, d, t0, os⟩ := s; obtain ⟨g0, g1, h⟩ := h
  wp_walk using (wpAny_loadPart' g0)
  have lo : ((fun i : Int => if i < 0 then max 0 (i + (vs.size : Int)) else i) ((none : Option Int).getD 0)) = ((0 : Nat) : Int) := by simp
  have up : ((fun i : Int => if i < 0 then max 0 (i + (vs.size : Int)) else i) ((none : Option Int).getD (2 ^ 63 - 1))) = 2 ^ 63 - 1 := by simp
  rw [lo, up]
  exact ⟨plainId_quiet plain_index_loop _, codeAny_builtin entry_index_loop (by
    rw [Around.under_plainId plain_index_loop _]
    exact kb_index_loopP l vs n dd sl x e (2 ^ 63 - 1) j jlt small found _ 0 rfl (Nat.zero_le _) (fun m hm _ h2 => miss m hm h2) A R _ ⟨g0, g1, h⟩)⟩
end
end PySem.SeqAt

set_option Elab.async false
set_option linter.all false
set_option maxRecDepth 100000
set_option maxHeartbeats 8000000
/-! Rules over the layer: answers dicts in lists. -/
namespace Kb
open PySem PySem.Spec PyProof.Rows L2 Evl
open Ka (Nm Res Mk Tr)
theorem ansK_inj {al bl : Ka.Ans} (h : ansK al = ansK bl) : al = bl := by
  unfold ansK at h
  refine (List.map_inj_right (fun a b e => ?_)).mp h
  obtain ⟨a1, a2⟩ := a
  obtain ⟨b1, b2⟩ := b
  simp only [Prod.mk.injEq] at e
  rw [nmS_inj (Sum.inr.inj e.1), resS_inj (V.str.inj e.2)]
def eqA (al bl : Ka.Ans) : Bool := al.all fun p => decide (p.2 = bl.get p.1)
theorem ans_self {al : Ka.Ans} (nd : (al.map (·.1)).Nodup) : al = (al.map (·.1)).map fun n => (n, al.get n) := by
  rw [List.map_map]
  conv => lhs; rw [← List.map_id al]
  refine List.map_congr_left fun p hp => ?_
  obtain ⟨n, r⟩ := p
  show (n, r) = (n, al.get n)
  rw [Ka.lookup_of nd r hp]
theorem eqA_iff {al bl : Ka.Ans} (hk : al.map (·.1) = bl.map (·.1)) (nd : (al.map (·.1)).Nodup) : eqA al bl = decide (al = bl) := by
  rw [Bool.eq_iff_iff, decide_eq_true_eq]
  unfold eqA
  rw [List.all_eq_true]
  constructor
  · intro h
    rw [ans_self nd, ans_self (al := bl) (by rw [← hk]; exact nd), ← hk]
    refine List.map_congr_left fun n hn => ?_
    obtain ⟨⟨n', r⟩, hp, rfl⟩ := List.mem_map.mp hn
    have := of_decide_eq_true (h _ hp)
    show (n', al.get n') = (n', bl.get n')
    rw [Ka.lookup_of nd r hp, ← show r = bl.get n' from this]
  · rintro rfl ⟨n, r⟩ hp
    exact decide_eq_true (Ka.lookup_of nd r hp).symm
theorem res_eqv (r r' : Res) : eqV (.str (resS r)) (.str (resS r')) = decide (r = r') := by cases r <;> cases r' <;> decide +kernel
theorem hits_ans {P : Program} {w : World} {A : Around} {s : Shared} {bl : Ka.Ans} {vb : List (Key × Value)} (rb : KV (ansK bl) vb) : ∀ {al : Ka.Ans} {va : List (Key × Value)}, KV (ansK al) va → (∀ p ∈ al, p.1 ∈ bl.map (·.1)) → PySem.W.KeqHitsP P w A s vb va (eqA al bl)
  | [], va, ra, _ => by
    unfold KV at ra
    cases ra
    exact .nil
  | p :: al, va, ra, hp => by
    unfold KV at ra
    have ra' : Paired _ ((Sum.inr (nmS p.1), V.str (resS p.2)) :: ansK al) va := ra
    cases ra' with
    | @cons _ q _ qs h t =>
      obtain ⟨h1, h2⟩ := h
      have rr : RelO (some (V.str (resS (bl.get p.1)))) (valueAt vb (Sum.inr (nmS p.1))) := by rw [← ans_get (hp p List.mem_cons_self)]; exact rb.val _
      obtain ⟨y, hy, ry⟩ := rr.some_of
      obtain ⟨key, v⟩ := q
      have h1' : (Sum.inr (nmS p.1) : Key) = key := h1
      rw [h1'] at hy
      have e1 : SeqAt.EqP P w A s v y (decide (p.2 = bl.get p.1)) := by
        rw [← res_eqv]
        exact (eqAt_V h2 ry rfl rfl).eqP
      exact .hit hy e1 (hits_ans rb t fun p' hm => hp p' (List.mem_cons_of_mem _ hm))
section
variable {X : Cx} {pins : List (Addr × Obj)} {σ : L2.St} {H : Hp} {s : Shared}
theorem eqP_ans (I : Inv X pins σ H s) {A : Around} (hu : A.units < cLine) {p d : Addr} {al bl : Ka.Ans} (hp : H p = some (.dK (ansK al))) (hd : H d = some (.dK (ansK bl))) (hk : al.map (·.1) = bl.map (·.1)) (nd : (al.map (·.1)).Nodup) :
    SeqAt.EqP X.prog X.w A s (.ref p) (.ref d) (decide (al = bl)) := by
  by_cases e : p = d
  · subst e
    rw [hp] at hd
    rw [decide_eq_true (ansK_inj (HO.dK.inj (Option.some.inj hd)))]
    exact (SeqAt.EqAt.same _).eqP
  · obtain ⟨_, ya, va, ra, da⟩ := (show ObjOk X.prog X.w H s.heap p (.dK (ansK al)) from I.hok p _ hp)
    obtain ⟨_, yb, vb, rb, db⟩ := (show ObjOk X.prog X.w H s.heap d (.dK (ansK bl)) from I.hok d _ hd)
    refine SeqAt.eqP_refs e fun E Q h => PySem.W.rcP_dicts (knd := mixKind X.prog X.w) (r := eqA al bl) ya yb da db hu (fun _ => hits_ans rb ra fun q hq => by rw [← hk]; exact List.mem_map.mpr ⟨q, hq, rfl⟩) E Q ?_
    have el : va.length = vb.length := by
      rw [← ra.length, ← rb.length, ansK, ansK, List.length_map, List.length_map]
      have := congrArg List.length hk
      rwa [List.length_map, List.length_map] at this
    rw [eqA_iff hk nd, show (va.length == vb.length && decide (al = bl)) = decide (al = bl) by rw [el]; simp]
    exact h
/-- xs.index(d): a list of answers -/
def rIndexA (K : PySem.W.Frag) : V → List V → Hp → VK → Prop := fun x vs H Q => ∃ (a d : Addr) (xs : List V) (l : List Ka.Ans) (al : Ka.Ans) (j : Nat), x = .ref a ∧ vs = [.ref d] ∧ SqL K H a xs ∧ AnsL H l xs ∧ H d = some (.dK (ansK al)) ∧
  (∀ b ∈ l, b.map (·.1) = al.map (·.1)) ∧ (al.map (·.1)).Nodup ∧ l.length ≤ 1000 ∧ l[j]? = some al ∧ (∀ m : Nat, m < j → l[m]? ≠ some al) ∧ Q (.int (j : Nat)) H
open Classical in
theorem mt_indexA (hu : X.A.units + 64 < cLine) : MtR X "list.index" (rIndexA X.K) := by
  intro pins s σ H x vs v us Q I rx rxs h
  obtain ⟨a, d, xs, l, al, j, rfl, rfl, hl, hA, hd, hk, nd, hlen, hj, hno, q⟩ := h
  cases rx
  obtain ⟨u, rfl, ru⟩ := rxs.one
  obtain rfl : u = Value.ref d := ru
  obtain ⟨its, rv, ⟨⟨cls, dd, data, sls⟩, n, ho, hc, hdn, hdt⟩, hz⟩ := I.list hl
  simp only at hc hdt
  subst hc hdt
  have l1 : its.length = l.length := by rw [← rv.length, hA.len]
  have hjl : j < l.length := (List.getElem?_eq_some_iff.mp hj).1
  have at_ : ∀ (m : Nat) (hm : m < its.toArray.size), ∃ p b, its.toArray[m] = .ref p ∧ l[m]? = some b ∧ H p = some (.dK (ansK b)) := by
    intro m hm
    have hm2 : m < its.length := by simpa using hm
    obtain ⟨x, hx, rx⟩ := vals_at rv (List.getElem?_eq_getElem hm2)
    obtain ⟨p, b, rfl, e2, e3⟩ := hA.at hx
    exact ⟨p, b, by simpa using (show its[m] = Value.ref p from rx), e2, e3⟩
  let e : Value → Bool := fun v => match v with | .ref p => decide (H p = some (.dK (ansK al))) | _ => false
  have he : ∀ p b, H p = some (.dK (ansK b)) → e (.ref p) = decide (b = al) := by
    intro p b hp
    show decide (H p = some (.dK (ansK al))) = decide (b = al)
    rw [hp]
    by_cases hb : b = al
    · subst hb; simp
    · rw [decide_eq_false hb, decide_eq_false]
      exact fun z => hb (ansK_inj (HO.dK.inj (Option.some.inj z)))
  have hjs : j < its.toArray.size := by rw [List.size_toArray, l1]; exact hjl
  refine call_meetsIn PySem.F.slot_list_index ⟨_, ho, rfl⟩ PySem.F.entry_list_index (PySem.F.args_list_index_2 _ _)
    (SeqAt.kb_list_indexP a its.toArray n dd sls (.ref d) e j hjs (by omega) ?_ ?_) ⟨ho, fun y hy => ?_, ?_⟩
  · obtain ⟨p, b, e1, e2, e3⟩ := at_ j hjs
    rw [e1, he p b e3]
    rw [hj] at e2
    exact decide_eq_true (Option.some.inj e2).symm
  · intro m hm hmj
    obtain ⟨p, b, e1, e2, e3⟩ := at_ m hm
    rw [e1, he p b e3]
    exact decide_eq_false fun z => hno m hmj (by rw [e2, z])
  · obtain ⟨m, hm, rfl⟩ := Array.getElem_of_mem hy
    obtain ⟨p, b, e1, e2, e3⟩ := at_ m hm
    rw [e1, he p b e3]
    have hb := hk b (List.mem_of_getElem? e2)
    exact eqP_ans I (by show X.A.units + 1 < cLine; omega) e3 hd hb (by rw [hb]; exact nd)
  · exact ⟨.int (j : Nat), H, I.tok _, ⟨_, rfl⟩, q⟩
/-- xs.count(word), a list of words -/
def wV (bs : List Bool) : List V := bs.map fun b => V.str (outS b)
def rCntB (K : PySem.W.Frag) : V → List V → Hp → VK → Prop := fun x xs H Q => ∃ (p : Addr) (bs : List Bool) (b : Bool), x = .ref p ∧ xs = [.str (outS b)] ∧ SqL K H p (wV bs) ∧ Q (.int (bs.count b : Nat)) H
def eqs (k : Str) (v : Value) : Bool := match v with
  | .str n _ => n == k
  | _ => false
theorem eq_out : ∀ c b : Bool, (outS c == outS b) = (c == b) := by decide +kernel
theorem eqs_count (b : Bool) : ∀ {bs : List Bool} {us : List Value}, Vals (wV bs) us → us.countP (eqs (outS b)) = bs.count b ∧ ∀ y ∈ us, ∃ c t, y = .str (outS c) t
  | [], _, r => by cases r; exact ⟨rfl, fun y hy => (by cases hy)⟩
  | c :: bs, _, r => by
    cases r with
    | cons r1 r2 =>
      obtain ⟨t, rfl⟩ := r1
      obtain ⟨ih, ih2⟩ := eqs_count b r2
      refine ⟨?_, fun y hy => ?_⟩
      · rw [List.countP_cons, List.count_cons, ih]
        rw [show eqs (outS b) (.str (outS c) t) = (c == b) from eq_out c b]
      · rcases List.mem_cons.mp hy with rfl | hy
        · exact ⟨c, t, rfl⟩
        · exact ih2 y hy
theorem mt_countB : MtR X "list.count" (rCntB X.K) := by
  intro pins s σ H x xs v us Q I rx rxs h
  obtain ⟨p, bs, b, rfl, rfl, hs, q⟩ := h
  cases rx
  obtain ⟨u, rfl, ru⟩ := rxs.one
  obtain ⟨t, rfl⟩ := ru
  obtain ⟨its, rv, ⟨⟨cls, dd, data, sl⟩, n, ho, hc, hdn, hd⟩, hlen⟩ := I.list hs
  simp only at hc hd
  subst hc hd
  obtain ⟨h1, h2⟩ := eqs_count b rv
  refine call_meets PySem.F.slot_list_count ⟨_, ho, rfl⟩ PySem.F.entry_list_count (PySem.F.args_list_count_2 _ _)
    (SeqAt.list_countAt p its.toArray n dd sl (.str (outS b) t) (eqs (outS b))) ⟨ho, fun y hy => ?_, ?_⟩
  · obtain ⟨c, t', rfl⟩ := h2 y (by simpa using hy)
    exact eqAt_V (y := .str (outS c)) (x := .str (outS b)) ⟨t', rfl⟩ ⟨t, rfl⟩ rfl rfl
  · refine ⟨.int (bs.count b : Nat), H, I.tok _, ⟨s.toks, ?_⟩, q⟩
    show Value.int ((its.toArray.toList.countP (eqs (outS b)) : Nat) : Int) s.toks = Value.int ((bs.count b : Nat) : Int) s.toks
    rw [show its.toArray.toList.countP (eqs (outS b)) = bs.count b from h1]
/-- [(d, word)] == [(e, word)] -/
def rHist (K : PySem.W.Frag) : R2 := fun x y H Q => ∃ (l1 l2 t1 t2 d1 d2 : Addr) (z : Str) (al : Ka.Ans), x = .ref l1 ∧ y = .ref l2 ∧ SqL K H l1 [.ref t1] ∧ SqL K H l2 [.ref t2] ∧ SqT K H t1 [.ref d1, .str z] ∧ SqT K H t2 [.ref d2, .str z] ∧
  H d1 = some (.dK (ansK al)) ∧ H d2 = some (.dK (ansK al)) ∧ (al.map (·.1)).Nodup ∧ Q (.bl true) H
theorem op_hist (hu : X.A.units + 64 < cLine) : OpR X (compareOp .Eq) (rHist X.K) := by
  intro pins s σ H x y v u Q I rx ry h
  obtain ⟨l1, l2, t1, t2, d1, d2, z, al, rfl, rfl, h1, h2, g1, g2, k1, k2, nd, q⟩ := h
  obtain rfl : v = Value.ref l1 := rx
  obtain rfl : u = Value.ref l2 := ry
  obtain ⟨its, r1, p1, _⟩ := I.list h1
  obtain ⟨its2, r2, p2, _⟩ := I.list h2
  obtain ⟨tu, rt1, pt1, _⟩ := I.tuple g1
  obtain ⟨tu2, rt2, pt2, _⟩ := I.tuple g2
  obtain rfl : its = [Value.ref t1] := Vals.ref1 r1
  obtain rfl : its2 = [Value.ref t2] := Vals.ref1 r2
  obtain ⟨w1, w2, rfl, rd1, rz1⟩ := Vals.two rt1
  obtain ⟨w3, w4, rfl, rd2, rz2⟩ := Vals.two rt2
  obtain rfl : w1 = Value.ref d1 := rd1
  obtain rfl : w3 = Value.ref d2 := rd2
  have hd : SeqAt.EqP X.prog X.w X.A.in1.in1 s (.ref d1) (.ref d2) true := by
    have := eqP_ans I (A := X.A.in1.in1) (by show X.A.units + 1 + 1 < cLine; omega) k1 k2 rfl nd
    simpa using this
  have ht : SeqAt.EqP X.prog X.w X.A.in1 s (.ref t1) (.ref t2) true := by
    by_cases e : t1 = t2
    · subst e; exact (SeqAt.EqAt.same _).eqP
    · refine SeqAt.eqP_refs e fun E Q h => SeqAt.rcIn_tuples (e := fun _ => true) pt1 pt2 (by show X.A.units + 1 < cLine; omega) (fun j h1 h2 => ?_) (show Q (.bool true) s from h)
      match j, h1 with
      | 0, _ => exact hd
      | 1, _ => exact (eqAt_same rz1 rz2 rfl).eqP
  refine SeqAt.rcP_lists (e := fun _ => true) p1.isList p2.isList rfl (by omega) (fun j h1 h2 => ?_) _ _ ?_
  · match j, h1 with
    | 0, _ => exact ht
  · exact ⟨.bl true, H, I, rfl, q⟩
end
end Kb

set_option Elab.async false
set_option linter.all false
set_option maxRecDepth 100000
set_option maxHeartbeats 8000000
/-! Suspects.__init__. -/
namespace Kb
open PySem PySem.Spec PyProof.Rows L2 Evl
open Ka (Nm Res Mk Tr)
def fS (N D W L F : Addr) : List (Str × V) := putF "facts" (.ref F) (putF "left" (.ref L) (putF "led_words" (.ref W) (putF "all_rows" (.ref D) (putF "all_names" (.ref N) []))))
theorem putL (N D W L F L' : Addr) : putF "left" (.ref L') (fS N D W L F) = fS N D W L' F := by rfl
theorem lkN (N D W L F : Addr) : (fS N D W L F).lookup ("all_names" : Str) = some (.ref N) := by rfl
theorem lkD (N D W L F : Addr) : (fS N D W L F).lookup ("all_rows" : Str) = some (.ref D) := by rfl
theorem lkW (N D W L F : Addr) : (fS N D W L F).lookup ("led_words" : Str) = some (.ref W) := by rfl
theorem lkL (N D W L F : Addr) : (fS N D W L F).lookup ("left" : Str) = some (.ref L) := by rfl
theorem lkF (N D W L F : Addr) : (fS N D W L F).lookup ("facts" : Str) = some (.ref F) := by rfl
def nats (ls : List Nat) : List V := ls.map fun i => V.int (i : Nat)
/-- the names of all -/
def allN (ts : List Tr) : List Nm := Nm.all.filter fun n => ts.any fun t => t.has n
theorem mem_allN {ts : List Tr} {n : Nm} : n ∈ allN ts ↔ ∃ t ∈ ts, t.has n = true := by
  simp [allN, Nm.mem_all]
theorem allN_len (ts : List Tr) : (allN ts).length ≤ 3 := List.length_filter_le _ _
theorem allN_nodup (ts : List Tr) : (allN ts).Nodup := List.Pairwise.filter _ (by decide)
theorem allN_step (ts : List Tr) (t : Tr) : sel (allN ts ++ Ka.names t) = allN (ts ++ [t]) := List.filter_congr fun n _ => by
  rw [Bool.eq_iff_iff, decide_eq_true_eq, List.mem_append, mem_allN, Ka.mem_names, List.any_append, Bool.or_eq_true]
  simp
/-- the words of the stacks -/
structure WordsAt (H : Hp) (ns : List Nm) (ts : List Tr) (ws : List V) : Prop where
  len : ws.length = ts.length
  row : ∀ (i : Nat) t, ts[i]? = some t → ∃ q, ws[i]? = some (.ref q) ∧ H q = some (.tup ((rwS (Ka.led ns t)).map V.str))
theorem WordsAt.mono {H H' : Hp} {ns : List Nm} {ts : List Tr} {ws : List V} (e : NL H H') (h : WordsAt H ns ts ws) : WordsAt H' ns ts ws :=
  ⟨h.len, fun i t hi => by obtain ⟨q, h1, h2⟩ := h.row i t hi; exact ⟨q, h1, e _ _ h2 rfl⟩⟩
theorem AnsL.updx {H : Hp} {x C dx : Addr} {fs : List (Str × V)} {o : HO} (hx : H x = some (.ins C dx fs)) : ∀ {l : List Ka.Ans} {xs : List V}, AnsL H l xs → AnsL (upd H x o) l xs
  | [], _, h => h
  | _ :: l, _, ⟨p, ys, e1, h1, h⟩ => ⟨p, ys, e1, by rw [upd_ne (ne_of h1 hx (by intro z; cases z))]; exact h1, AnsL.updx hx h⟩
theorem WordsAt.updx {H : Hp} {x C dx : Addr} {fs : List (Str × V)} {o : HO} {ns : List Nm} {ts : List Tr} {ws : List V} (hx : H x = some (.ins C dx fs)) (h : WordsAt H ns ts ws) : WordsAt (upd H x o) ns ts ws :=
  ⟨h.len, fun i t hi => by obtain ⟨q, h1, h2⟩ := h.row i t hi; exact ⟨q, h1, by rw [upd_ne (ne_of h2 hx (by intro z; cases z))]; exact h2⟩⟩
def SusAt (a : Ad) (H : Hp) (x : Addr) (ns : List Nm) (ts : List Tr) (ls : List Nat) (fa : List V) : Prop := ∃ dx N D W L F xs ws, H x = some (.ins a.cSuspects dx (fS N D W L F)) ∧ H N = some (.lst (nms ns)) ∧ H D = some (.lst xs) ∧ AnsL H (Ka.answers ns) xs ∧
  H W = some (.lst ws) ∧ WordsAt H ns ts ws ∧ H L = some (.lst (nats ls)) ∧ H F = some (.lst fa) ∧ F ≠ N ∧ F ≠ D ∧ F ≠ W ∧ F ≠ L
theorem SusAt.mono {a : Ad} {H H' : Hp} {x : Addr} {ns : List Nm} {ts : List Tr} {ls : List Nat} {fa : List V} (e : Ex H H') (h : SusAt a H x ns ts ls fa) : SusAt a H' x ns ts ls fa := by
  obtain ⟨dx, N, D, W, L, F, xs, ws, h1, h2, h3, h4, h5, h6, h7, h8, h9⟩ := h
  exact ⟨dx, N, D, W, L, F, xs, ws, e _ _ h1, e _ _ h2, e _ _ h3, h4.mono (NL.of e), e _ _ h5, h6.mono (NL.of e), e _ _ h7, e _ _ h8, h9⟩
section
variable {P : Program} {w : World} {K : PySem.W.Frag} {mg : Str → Option Value} {base : Heap} {a : Ad}
def spModules (a : Ad) : Sp := fun vs H Q _ => ∃ p dx fs v, vs = [.ref p] ∧ H p = some (.ins a.cStack dx fs) ∧ fs.lookup ("names" : Str) = some v ∧ Q v H
theorem ok_modules (T : Tx K mg a) : Prp P w K mg base 1 a.cStack "modules" (spModules a) := by
  refine prp_of T.kStack T.dModules scModules (fun vs H Q E h => ?_) (fun f cdv A outer s H vs Q E hr h => ?_)
  · obtain ⟨_, _, _, _, rfl, _⟩ := h; rfl
  · obtain ⟨p, dx, fs, v, rfl, hp, hl, k⟩ := h
    exact ⟨_, pss_one (ps_ret (pe_fld (pv 0) rfl)), _, rfl, p, _, dx, _, _, rfl, hp, T.kStack, T.nStack_names, hl, k⟩
def spSusInit (a : Ad) : Sp := fun vs H Q _ => ∃ (x dx s : Addr) (ps : List (Addr × Tr)) (H0 : Hp), vs = [.ref x, .ref s] ∧ H x = some (.ins a.cSuspects dx []) ∧ H0 x = none ∧ Ex H0 H ∧ H0 s = some (.tup (ps.map fun p => V.ref p.1)) ∧ (∀ p ∈ ps, StackAt a H0 p.1 p.2 ∧ Ok p.2) ∧ ps ≠ [] ∧ ps.length ≤ 6 ∧
  ∀ H', Ex H0 H' → SusAt a H' x (allN (ps.map (·.2))) (ps.map (·.2)) (List.range ps.length) [] → Q .non H'
theorem nats_range (n : Nat) : rgV 0 (n : Int) = nats (List.range n) := by
  unfold rgV nats
  rw [Int.sub_zero, Int.toNat_natCast]
  exact List.map_congr_left fun i _ => by simp
theorem word_of {ns : List Nm} {t : Tr} {xs : List V} (hl : xs.length = (Ka.answers ns).length) (h : ∀ (i : Nat) v, xs[i]? = some v → ∃ al, (Ka.answers ns)[i]? = some al ∧ v = .str (outS (Ka.out al.get t))) : xs = (rwS (Ka.led ns t)).map V.str := by
  apply List.ext_getElem?
  intro i
  unfold rwS Ka.led
  rw [List.map_map, List.map_map, List.getElem?_map]
  by_cases hi : i < xs.length
  · obtain ⟨al, h1, h2⟩ := h i _ (List.getElem?_eq_getElem hi)
    rw [List.getElem?_eq_getElem hi, h1, h2]; rfl
  · rw [List.getElem?_eq_none (by omega), List.getElem?_eq_none (by omega)]; rfl
set_option maxHeartbeats 32000000 in
theorem ok_sus_init (T : Tx K mg a) : C8.Mak P w K mg base 9 "Suspects" a.cSuspects (spSusInit a) [] := by
  refine mak_of T.dSusInit T.gSuspects scSusInit (fun vs H Q E h => ?_) (fun f cdv A outer s H vs Q E hr h => ?_)
  · obtain ⟨_, _, _, _, _, rfl, _⟩ := h; rfl
  · obtain ⟨x, dx, s, ps, H0, rfl, hx, h0, e0, hs, hps, hne, hl, k⟩ := h
    have nd := scSusInit.nd
    have hu := hr.units
    refine ⟨_, pss_cons (ps_fld (pv 0) (pe_lst pa_nil) rfl)
      (pss_cons (ps_if (pt_cmpR (op_eq0 hu) (pv 1) (pe_tup pa_nil) (nomark _)) pss_never pss_nil)
      (C8.pss_cut (ps_for PassesOwn.never rfl (pi_enumT (by rfl) T.b_enumerate (pa_cons (pv 1) pa_nil)) (pg_tup rfl (pgs_cons (pg_name (i := 2) nd rfl (Or.inl rfl)) (pgs_cons (pg_name (i := 3) nd rfl (Or.inl rfl)) pgs_nil)))
        (pss_cons (ps_fld (pv 0) (pe_names rfl hu (by rfl) T.b_sorted (by rfl) T.b_set (pe_lst (StX.pa_star (pe_fld (pv 0) rfl) (StX.pa_star (pe_pr (ok_modules T) hr (by decide) (pv 3)) pa_nil)))) rfl)
        (pss_one (ps_if (PW.pt (pw_or (pt_cmpR op_eq (pv 2) (pg T.vMOST_STACKS) (nomark _)) (pw_or1 (pt_cmpR op_gt (pe_callB call_len_seq (by rfl) T.b_len PySem.boot_len (pa_cons (pe_fld (pv 0) rfl) pa_nil)) (pg T.vMOST_MODULES_suspects) (nomark _))))) pss_never pss_nil))))
      (pss_cons (ps_fld (pv 0) (C8.pe_c (ok_all_answers T) hr (by decide) (by rfl) (pa_cons (pe_fld (pv 0) rfl) pa_nil)) rfl)
      (pss_cons (ps_fld (pv 0) (pe_lc (own := [("stack", 3)]) (g := gName 3) (tt := tYes) (te := tThen (tLc (iList K (tFld K (tVar 0) "all_rows")) (gName 4) tYes (tMeth a.cRun "outcome" (spOutcome K a) [] C8.E0 (tMake a.cRun (spRunInit K a) [] C8.E0 (tCons (tVar 3) (tCons (tVar 4) tNil))) tNil) [4]) (kTup K)) rfl nd (pi_tup (pv 1)) (blkOk_by (N := ["self", "stacks", "index", "stack", "answers"]) (sc := C8.fnScope sSusInit) (by decide +kernel))
          (fun _ _ _ _ _ => pg_name (i := 3) nd rfl (Or.inr rfl)) (fun _ _ _ _ _ => pts_nil)
          (fun _ _ _ _ _ => pe_tupleOf (by rfl) T.b_tuple (pe_lc (own := [("answers", 4)]) (te := tMeth a.cRun "outcome" (spOutcome K a) [] C8.E0 (tMake a.cRun (spRunInit K a) [] C8.E0 (tCons (tVar 3) (tCons (tVar 4) tNil))) tNil) rfl nd (pi_list (pe_fld (pv 0) rfl)) (blkOk_by (N := ["self", "stacks", "index", "stack", "answers"]) (by kernel_rfl))
            (fun _ _ _ _ _ => pg_name (i := 4) nd rfl (Or.inl rfl)) (fun _ _ _ _ _ => pts_nil)
            (fun _ _ _ _ _ => C8.pe_mt0 (ok_outcome T) hr (by decide) (C8.pe_mk (ok_run_init T) hr (by decide) (by rfl) (pa_cons (pv 3) (pa_cons (pv 4) pa_nil))))))) rfl)
      (pss_cons (ps_fld (pv 0) (pe_listRg rfl (by rfl) T.b_list (prg_1 (by rfl) T.b_range (pe_callB call_len_seq (by rfl) T.b_len PySem.boot_len (pa_cons (pv 1) pa_nil)))) rfl)
      (pss_one (ps_fld (pv 0) (pe_lst pa_nil) rfl))))))), ?_⟩
    have nsx : s ≠ x := fun z => by rw [z, h0] at hs; cases hs
    have lps : (ps.map fun p => V.ref p.1).length = ps.length := List.length_map _
    refine ⟨Nat.zero_le _, fun N0 hN0 => ⟨_, rfl, x, a.cSuspects, dx, [], rfl, by rw [upd_ne (ne_of_none hx hN0)]; exact hx, T.kSuspects, T.nSuspects_all_names, (by decide), ?_⟩⟩
    have nxN : x ≠ N0 := ne_of_none hx hN0
    have e1 : Ex H0 (upd (upd H N0 (.lst [])) x (.ins a.cSuspects dx (putF "all_names" (.ref N0) []))) := (e0.mut (fresh_back e0 hN0)).mut h0
    have hx1 : (upd (upd H N0 (.lst [])) x (.ins a.cSuspects dx (putF "all_names" (.ref N0) []))) x = some (.ins a.cSuspects dx (putF "all_names" (.ref N0) [])) := upd_same
    have hN1 : (upd (upd H N0 (.lst [])) x (.ins a.cSuspects dx (putF "all_names" (.ref N0) []))) N0 = some (.lst []) := by rw [upd_ne nxN.symm]; exact upd_same
    have hN00 : H0 N0 = none := fresh_back e0 hN0
    generalize upd (upd H N0 (.lst [])) x (.ins a.cSuspects dx (putF "all_names" (.ref N0) [])) = H1 at e1 hx1 hN1 ⊢
    refine ⟨_, rfl, Nat.zero_le _, fun z hz => ⟨s, z, _, rfl, rfl, SqT.of (Ex.new hz _ _ (e1 _ _ hs)), SqT.of upd_same, false, congrArg V.bl (decide_eq_false fun e => hne (List.map_eq_nil_iff.mp e)), iteF ?_⟩⟩
    have e2 : Ex H0 (upd H1 z (.tup [])) := e1.trans (Ex.new hz)
    have hx2 := Ex.new (o := .tup []) hz _ _ hx1
    have hN2 := Ex.new (o := .tup []) hz _ _ hN1
    generalize upd H1 z (.tup []) = H2 at e2 hx2 hN2 ⊢
    refine ⟨fun σ H' => ∃ y2 y3 y4 N, σ = [some (.ref x), some (.ref s), y2, y3, y4] ∧ Ex H0 H' ∧ H' x = some (.ins a.cSuspects dx (putF "all_names" (.ref N) [])) ∧ H' N = some (.lst (nms (allN (ps.map (·.2))))) ∧ H0 N = none, ?_, ?_⟩
    · refine ⟨_, rfl, s, _, rfl, SqT.of (e2 _ _ hs), ?_⟩
      refine for_it walk_p (fun i σ H' => ∃ y2 y3 y4 N, σ = [some (.ref x), some (.ref s), y2, y3, y4] ∧ Ex H0 H' ∧ H' x = some (.ins a.cSuspects dx (putF "all_names" (.ref N) [])) ∧ H' N = some (.lst (nms (allN ((ps.take i).map (·.2))))) ∧ H0 N = none)
        ⟨none, none, none, N0, rfl, e2, hx2, hN2, hN00⟩ (fun i σ H' _ ⟨_, _, _, _, _, e, _⟩ => SqT.of (e _ _ hs)) ?_ ?_
      · rintro i v σ H3 _ hi ⟨y2, y3, y4, N, rfl, e3, hx3, hN3, hN30⟩ ⟨tp, rfl, htp, rfl⟩
        rw [lps] at hi
        have eg : (ps.map fun p => V.ref p.1).getD i .non = .ref ps[i].1 := by rw [List.getD_eq_getElem?_getD, List.getElem?_map, List.getElem?_eq_getElem hi]; rfl
        rw [eg]
        obtain ⟨hst, hok⟩ := hps ps[i] (List.getElem_mem hi)
        have htk : (ps.take (i + 1)).map (·.2) = (ps.take i).map (·.2) ++ [ps[i].2] := by rw [take_some (List.getElem?_eq_getElem hi), List.map_append]; rfl
        rw [htk]
        generalize ps[i].1 = p at hst ⊢
        generalize ps[i].2 = t at hst hok ⊢
        generalize (ps.take i).map (·.2) = ts0 at hN3 ⊢
        refine ⟨tp, _, rfl, SqT.of upd_same, rfl, _, _, rfl, _, _, rfl, rfl, ?_⟩
        have e4 : Ex H0 (upd H3 tp (.tup [.int (i : Nat), .ref p])) := e3.trans (Ex.new htp)
        have hx4 := Ex.new (o := .tup [.int (i : Nat), .ref p]) htp _ _ hx3
        have hN4 := Ex.new (o := .tup [.int (i : Nat), .ref p]) htp _ _ hN3
        generalize upd H3 tp (.tup [.int (i : Nat), .ref p]) = H4 at e4 hx4 hN4 ⊢
        obtain ⟨dxs, pa, st, nm, ys, rs, h1, h2, h3, h4, h5, h6⟩ := hst.mono (NL.of e4)
        refine ⟨_, rfl, x, _, dx, _, _, rfl, hx4, T.kSuspects, T.nSuspects_all_names, rfl, N, _, rfl, .inr (SqL.of hN4), ?_⟩
        refine ⟨_, rfl, p, dxs, _, rfl, h1, p, dxs, _, _, rfl, h1, lk_names .., nm, _, rfl, .inl (SqT.of h6), ?_⟩
        have ln3 := allN_len ts0
        have ln4 := Ka.names_len t
        have lnn : ((nms (allN ts0)) ++ (nms (Ka.names t) ++ [])).length ≤ 6 := by
          rw [List.append_nil, List.length_append, nms, nms, List.length_map, List.length_map]; omega
        refine ⟨sz_of (by omega), fun l hl => ⟨l, allN ts0 ++ Ka.names t, rfl, .inl (SqL.of (by rw [upd_same, nms, nms, nms, List.map_append, List.append_nil])), by rw [List.length_append]; omega, fun H5 pn e5 hpn => ?_⟩⟩
        rw [allN_step]
        have e45 := (Ex.new hl).trans e5
        have nxp : x ≠ pn := ne_of_none (e45 _ _ hx4) hpn
        refine ⟨_, rfl, x, a.cSuspects, dx, _, rfl, by rw [upd_ne nxp]; exact e45 _ _ hx4, T.kSuspects, T.nSuspects_all_names, (by show 1 < 1000; decide), ?_⟩
        rw [show putF "all_names" (V.ref pn) (putF "all_names" (V.ref N) []) = putF "all_names" (V.ref pn) [] from rfl]
        have hpn0 : H0 pn = none := fresh_back (e4.trans e45) hpn
        have e6 : Ex H0 (upd (upd H5 pn (.lst (nms (allN (ts0 ++ [t]))))) x (.ins a.cSuspects dx (putF "all_names" (.ref pn) []))) := ((e4.trans e45).mut hpn0).mut h0
        have hx6 : (upd (upd H5 pn (.lst (nms (allN (ts0 ++ [t]))))) x (.ins a.cSuspects dx (putF "all_names" (.ref pn) []))) x = some (.ins a.cSuspects dx (putF "all_names" (.ref pn) [])) := upd_same
        have hp6 : (upd (upd H5 pn (.lst (nms (allN (ts0 ++ [t]))))) x (.ins a.cSuspects dx (putF "all_names" (.ref pn) []))) pn = some (.lst (nms (allN (ts0 ++ [t])))) := by rw [upd_ne nxp.symm]; exact upd_same
        generalize upd (upd H5 pn (.lst (nms (allN (ts0 ++ [t]))))) x (.ins a.cSuspects dx (putF "all_names" (.ref pn) [])) = H6 at e6 hx6 hp6 ⊢
        have hi6 : ¬ (V.int (i : Nat) = V.int 6) := fun z => by have := V.int.inj z; omega
        have ln5 : (nms (allN (ts0 ++ [t]))).length ≤ 3 := by rw [nms, List.length_map]; exact allN_len _
        refine ⟨_, rfl, rfl, false, congrArg V.bl (decide_eq_false hi6), iteF ⟨_, rfl, x, _, dx, _, _, rfl, hx6, T.kSuspects, T.nSuspects_all_names, rfl, pn, _, rfl, .inl (SqL.of hp6), _, _, rfl, rfl, false, congrArg V.bl (decide_eq_false (by omega)), iteF ⟨_, _, _, pn, rfl, e6, hx6, hp6, hpn0⟩⟩⟩
      · rintro σ H' ⟨y2, y3, y4, N, rfl, e, h1, h2, h3⟩
        rw [lps, List.take_length] at h2
        exact ⟨_, _, _, N, rfl, e, h1, h2, h3⟩
    rintro σ H3 ⟨y2, y3, y4, N, rfl, e3, hx3, hN3, hN30⟩
    have nds := allN_nodup (ps.map (·.2))
    have lns := allN_len (ps.map (·.2))
    have hhas : ∀ p ∈ ps, ∀ n, p.2.has n = true → n ∈ allN (ps.map (·.2)) := fun p hp n hn => mem_allN.mpr ⟨p.2, List.mem_map.mpr ⟨p, hp, rfl⟩, hn⟩
    generalize allN (ps.map (·.2)) = ns at hN3 nds lns hhas k ⊢
    refine ⟨_, rfl, x, _, dx, _, _, rfl, hx3, T.kSuspects, T.nSuspects_all_names, rfl, N, ns, rfl, SqL.of hN3, nds, lns, fun D H4 xs e4 hDn hD hA => ⟨_, rfl, x, a.cSuspects, dx, _, rfl, e4 _ _ hx3, T.kSuspects, T.nSuspects_all_rows, (by show 1 < 1000; decide), ?_⟩⟩
    have hx4 := e4 _ _ hx3
    have nDx : D ≠ x := ne_of hD hx4 (by intro z; cases z)
    have nNx : N ≠ x := ne_of (e4 _ _ hN3) hx4 (by intro z; cases z)
    have e5 : Ex H0 (upd H4 x (.ins a.cSuspects dx (putF "all_rows" (.ref D) (putF "all_names" (.ref N) [])))) := (e3.trans e4).mut h0
    have hx5 : (upd H4 x (.ins a.cSuspects dx (putF "all_rows" (.ref D) (putF "all_names" (.ref N) [])))) x = some (.ins a.cSuspects dx (putF "all_rows" (.ref D) (putF "all_names" (.ref N) []))) := upd_same
    have hD5 : (upd H4 x (.ins a.cSuspects dx (putF "all_rows" (.ref D) (putF "all_names" (.ref N) [])))) D = some (.lst xs) := by rw [upd_ne nDx]; exact hD
    have hN5 : (upd H4 x (.ins a.cSuspects dx (putF "all_rows" (.ref D) (putF "all_names" (.ref N) [])))) N = some (.lst (nms ns)) := by rw [upd_ne nNx]; exact e4 _ _ hN3
    have hA5 : AnsL (upd H4 x (.ins a.cSuspects dx (putF "all_rows" (.ref D) (putF "all_names" (.ref N) [])))) (Ka.answers ns) xs := hA.updx hx4
    have hDn0 : H0 D = none := fresh_back e3 hDn
    generalize upd H4 x (.ins a.cSuspects dx (putF "all_rows" (.ref D) (putF "all_names" (.ref N) []))) = H5 at e5 hx5 hD5 hN5 hA5 ⊢
    have lx : xs.length ≤ 64 := by
      rw [hA5.len, Ka.answers_len]
      calc 4 ^ ns.length ≤ 4 ^ 3 := Nat.pow_le_pow_right (by decide) lns
        _ = 64 := rfl
    refine ⟨_, rfl, s, rfl, ⟨_, SqT.of (e5 _ _ hs)⟩, fun W hW => ?_⟩
    refine lc_all (walk_tup (xs := ps.map fun p => V.ref p.1)) (by rw [lps]; omega) hW (fun i v H => ∃ p q, ps[i]? = some p ∧ v = .ref q ∧ H q = some (.tup ((rwS (Ka.led ns p.2)).map V.str))) (fun i v H H' e ⟨p, q, g1, g2, g3⟩ => ⟨p, q, g1, g2, e _ _ g3 rfl⟩) (fun H' e => SqT.of (e _ _ (e5 _ _ hs))) ?_ ?_
    · rintro i v _ H6 hi e6 ⟨rfl, hv⟩ R hR
      obtain ⟨p, hp, rfl⟩ : ∃ p, ps[i]? = some p ∧ v = .ref p.1 := by
        rw [lps] at hi
        rw [List.getElem?_map, List.getElem?_eq_getElem hi] at hv
        exact ⟨_, List.getElem?_eq_getElem hi, (Option.some.inj hv).symm⟩
      obtain ⟨hst, hok⟩ := hps p (List.mem_of_getElem? hp)
      refine ⟨rfl, _, rfl, x, _, dx, _, _, rfl, e6 _ _ hx5, T.kSuspects, T.nSuspects_all_rows, rfl, D, rfl, ⟨_, SqL.of (e6 _ _ hD5)⟩, fun D2 hD2 => ?_⟩
      refine lc_all walk_list (by omega) hD2 (fun j v _ => ∃ al, (Ka.answers ns)[j]? = some al ∧ v = .str (outS (Ka.out al.get p.2))) (fun _ _ _ _ _ h => h) (fun H' e => SqL.of (e _ _ (e6 _ _ hD5))) ?_ ?_
      · rintro j y _ H7 hj e7 ⟨rfl, hy⟩ R2 hR2
        obtain ⟨pa, al, rfl, hal, hpa⟩ := hA5.at hy
        have keys : al.map (·.1) = ns := Ka.mem_answers.mp (List.mem_of_getElem? hal)
        exact ⟨rfl, _, rfl, _, rfl, ro_step T (hst.mono (NL.of ((e5.trans e6).trans e7))) (e7 _ _ (e6 _ _ hpa)) (fun n hn => by rw [keys]; exact hhas p (List.mem_of_getElem? hp) n hn) hok fun H8 e8 => hR2 _ _ e8 ⟨al, hal, rfl⟩⟩
      · intro zs H8 e8 hz8 ln8 hy8
        obtain rfl := word_of (t := p.2) (by rw [ln8, hA5.len]) hy8
        exact .inl ⟨D2, _, rfl, SqL.of hz8, fun z hz => hR _ _ (e8.trans (Ex.new hz)) ⟨p, z, hp, rfl, upd_same⟩⟩
    · intro ws H6 e6 hW6 lW hy6
      have hx6 := e6 _ _ hx5
      have hwords : WordsAt H6 ns (ps.map (·.2)) ws := ⟨by rw [lW, lps, List.length_map], fun i t hi => by
        rw [List.getElem?_map] at hi
        cases hp : ps[i]? with
        | none => rw [hp] at hi; cases hi
        | some p =>
          rw [hp] at hi
          cases hi
          have hi2 : i < ws.length := by rw [lW, lps]; exact (List.getElem?_eq_some_iff.mp hp).1
          obtain ⟨p', q, g1, g2, g3⟩ := hy6 i _ (List.getElem?_eq_getElem hi2)
          rw [hp] at g1
          cases g1
          exact ⟨q, by rw [List.getElem?_eq_getElem hi2, g2], g3⟩⟩
      have nWx : W ≠ x := ne_of hW6 hx6 (by intro z; cases z)
      refine ⟨_, rfl, x, a.cSuspects, dx, _, rfl, hx6, T.kSuspects, T.nSuspects_led_words, (by show 2 < 1000; decide), ?_⟩
      have e7 : Ex H0 (upd H6 x (.ins a.cSuspects dx (putF "led_words" (.ref W) (putF "all_rows" (.ref D) (putF "all_names" (.ref N) []))))) := (e5.trans e6).mut h0
      have hx7 : (upd H6 x (.ins a.cSuspects dx (putF "led_words" (.ref W) (putF "all_rows" (.ref D) (putF "all_names" (.ref N) []))))) x = some (.ins a.cSuspects dx (putF "led_words" (.ref W) (putF "all_rows" (.ref D) (putF "all_names" (.ref N) [])))) := upd_same
      have hD7 : (upd H6 x (.ins a.cSuspects dx (putF "led_words" (.ref W) (putF "all_rows" (.ref D) (putF "all_names" (.ref N) []))))) D = some (.lst xs) := by rw [upd_ne nDx]; exact e6 _ _ hD5
      have hN7 : (upd H6 x (.ins a.cSuspects dx (putF "led_words" (.ref W) (putF "all_rows" (.ref D) (putF "all_names" (.ref N) []))))) N = some (.lst (nms ns)) := by rw [upd_ne nNx]; exact e6 _ _ hN5
      have hW7 : (upd H6 x (.ins a.cSuspects dx (putF "led_words" (.ref W) (putF "all_rows" (.ref D) (putF "all_names" (.ref N) []))))) W = some (.lst ws) := by rw [upd_ne nWx]; exact hW6
      have hA7 := (hA5.mono (NL.of e6)).updx (o := .ins a.cSuspects dx (putF "led_words" (.ref W) (putF "all_rows" (.ref D) (putF "all_names" (.ref N) [])))) hx6
      have hw7 := hwords.updx (o := .ins a.cSuspects dx (putF "led_words" (.ref W) (putF "all_rows" (.ref D) (putF "all_names" (.ref N) [])))) hx6
      generalize upd H6 x (.ins a.cSuspects dx (putF "led_words" (.ref W) (putF "all_rows" (.ref D) (putF "all_names" (.ref N) [])))) = H7 at e7 hx7 hD7 hN7 hW7 hA7 hw7 ⊢
      refine ⟨_, rfl, s, _, rfl, .inr (SqT.of (e7 _ _ hs)), _, rfl, RgOk.of_le (by omega) (by omega) (by decide) (by rw [lps]; omega), fun L hL => ?_⟩
      rw [lps, nats_range]
      have nLx : x ≠ L := ne_of_none hx7 hL
      refine ⟨_, rfl, x, a.cSuspects, dx, _, rfl, by rw [upd_ne nLx]; exact hx7, T.kSuspects, T.nSuspects_left, (by show 3 < 1000; decide), ?_⟩
      have e78 : Ex H7 (upd H7 L (.lst (nats (List.range ps.length)))) := Ex.new hL
      have hx8 : (upd H7 L (.lst (nats (List.range ps.length)))) x = some (.ins a.cSuspects dx (putF "led_words" (.ref W) (putF "all_rows" (.ref D) (putF "all_names" (.ref N) [])))) := by rw [upd_ne nLx]; exact hx7
      have hL8 : (upd H7 L (.lst (nats (List.range ps.length)))) L = some (.lst (nats (List.range ps.length))) := upd_same
      generalize upd H7 L (.lst (nats (List.range ps.length))) = H8 at e78 hx8 hL8 ⊢
      refine ⟨Nat.zero_le _, fun F hF => ?_⟩
      have hF8 : H8 F = none := by
        by_cases e : F = x
        · rw [e, upd_same] at hF; cases hF
        · rw [upd_ne e] at hF; exact hF
      have nFx : x ≠ F := ne_of_none hx8 hF8
      refine ⟨_, rfl, x, a.cSuspects, dx, _, rfl, by rw [upd_ne nFx]; exact upd_same, T.kSuspects, T.nSuspects_facts, (by show 4 < 1000; decide), ?_⟩
      have e8 : Ex H0 H8 := e7.trans e78
      have hF0 : H0 F = none := fresh_back e8 hF8
      refine k _ (((e8.mut h0).mut hF0).mut h0) ⟨dx, N, D, W, L, F, xs, ws, upd_same, ?_, ?_, ?_, ?_, ?_, ?_, ?_, ?_, ?_, ?_, ?_⟩
      · rw [upd_ne nNx, upd_ne (ne_of_none (e78 _ _ hN7) hF8), upd_ne nNx]; exact e78 _ _ hN7
      · rw [upd_ne nDx, upd_ne (ne_of_none (e78 _ _ hD7) hF8), upd_ne nDx]; exact e78 _ _ hD7
      · have a1 := (hA7.mono (NL.of e78)).updx (o := .ins a.cSuspects dx (putF "left" (.ref L) (putF "led_words" (.ref W) (putF "all_rows" (.ref D) (putF "all_names" (.ref N) []))))) hx8
        exact (a1.mono (NL.of (Ex.new hF))).updx (by rw [upd_ne nFx]; exact upd_same)
      · rw [upd_ne nWx, upd_ne (ne_of_none (e78 _ _ hW7) hF8), upd_ne nWx]; exact e78 _ _ hW7
      · have a1 := (hw7.mono (NL.of e78)).updx (o := .ins a.cSuspects dx (putF "left" (.ref L) (putF "led_words" (.ref W) (putF "all_rows" (.ref D) (putF "all_names" (.ref N) []))))) hx8
        exact (a1.mono (NL.of (Ex.new hF))).updx (by rw [upd_ne nFx]; exact upd_same)
      · rw [upd_ne nLx.symm, upd_ne (ne_of_none hL8 hF8), upd_ne nLx.symm]; exact hL8
      · rw [upd_ne nFx.symm]; exact upd_same
      · exact (ne_of_none (e78 _ _ hN7) hF8).symm
      · exact (ne_of_none (e78 _ _ hD7) hF8).symm
      · exact (ne_of_none (e78 _ _ hW7) hF8).symm
      · exact (ne_of_none hL8 hF8).symm
end
end Kb

set_option Elab.async false
set_option linter.all false
set_option maxRecDepth 100000
set_option maxHeartbeats 8000000
/-! Suspects: remaining, history, see. -/
namespace Kb
open PySem PySem.Spec PyProof.Rows L2 Evl
open Ka (Nm Res Mk Tr)
/-- whole numbers as data -/
def natD (ls : List Nat) : PyData := .list (ls.map fun i => .int (i : Nat))
theorem natD_lay : ∀ ls : List Nat, PyData.canLayAll0 (ls.map fun (i : Nat) => PyData.int (i : Nat)) = true
  | [] => rfl
  | i :: ls => by rw [List.map_cons]; simp only [PyData.canLayAll0, PyData.canLay0, natD_lay ls, Bool.and_true]
theorem natD_dep : ∀ ls : List Nat, PyData.depthAll (ls.map fun (i : Nat) => PyData.int (i : Nat)) = 0
  | [] => rfl
  | i :: ls => by rw [List.map_cons]; simp only [PyData.depthAll, PyData.depth, natD_dep ls]; rfl
theorem natD_shaped (ls : List Nat) : SeqAt.shaped (natD ls) = true := by
  unfold SeqAt.shaped natD
  rw [Bool.and_eq_true]
  refine ⟨by simp only [PyData.canLay0, natD_lay], decide_eq_true ?_⟩
  simp only [PyData.depth, natD_dep]; omega
theorem natD_dpAll {K : PySem.W.Frag} {H : Hp} : ∀ ls : List Nat, DpAll K H (nats ls) (ls.map fun (i : Nat) => PyData.int (i : Nat))
  | [] => .nil
  | i :: ls => .cons (.int _) (natD_dpAll ls)
theorem natD_dp {K : PySem.W.Frag} {H : Hp} {p : Addr} {ls : List Nat} (h : SqL K H p (nats ls)) : Dp K H (.ref p) (natD ls) := .lst h (natD_dpAll ls)
section
variable {P : Program} {w : World} {K : PySem.W.Frag} {mg : Str → Option Value} {base : Heap} {a : Ad}
def spRemaining (a : Ad) : Sp := fun vs H Q _ => ∃ x ns ts ls fa, vs = [.ref x] ∧ SusAt a H x ns ts ls fa ∧ ∀ p H', Ex H H' → H p = none → H' p = some (.lst (nats ls)) → Q (.ref p) H'
theorem ok_remaining (T : Tx K mg a) : Prp P w K mg base 1 a.cSuspects "remaining" (spRemaining a) := by
  refine prp_of T.kSuspects T.dRemaining scRemaining (fun vs H Q E h => ?_) (fun f cdv A outer s H vs Q E hr h => ?_)
  · obtain ⟨_, _, _, _, _, rfl, _⟩ := h; rfl
  · obtain ⟨x, ns, ts, ls, fa, rfl, hx, k⟩ := h
    obtain ⟨dx, N, D, W, L, F, xs, ws, h1, h2, h3, h4, h5, h6, h7, h8, h9⟩ := hx
    refine ⟨_, pss_one (ps_ret (pe_callTy call_list_of (by rfl) T.b_list (by decide +kernel) (pa_cons (pe_fld (pv 0) rfl) pa_nil))), ?_⟩
    exact ⟨_, rfl, x, _, dx, _, _, rfl, h1, T.kSuspects, T.nSuspects_left, lkL .., L, _, rfl, .inl (SqL.of h7), fun l hl => k l _ (Ex.new hl) hl upd_same⟩
def spHistory (a : Ad) : Sp := fun vs H Q _ => ∃ x ns ts ls tu d z al, vs = [.ref x] ∧ SusAt a H x ns ts ls [.ref tu] ∧ H tu = some (.tup [.ref d, .str z]) ∧ H d = some (.dK (ansK al)) ∧ (ansK al).length ≤ 1000 ∧ ∀ p t' d' H', Ex H H' → H' p = some (.lst [.ref t']) → H' t' = some (.tup [.ref d', .str z]) → H' d' = some (.dK (ansK al)) → Q (.ref p) H'
theorem ok_history (T : Tx K mg a) : Prp P w K mg base 1 a.cSuspects "history" (spHistory a) := by
  refine prp_of T.kSuspects T.dHistory scHistory (fun vs H Q E h => ?_) (fun f cdv A outer s H vs Q E hr h => ?_)
  · obtain ⟨_, _, _, _, _, _, _, _, rfl, _⟩ := h; rfl
  · obtain ⟨x, ns, ts, ls, tu, d, z, al, rfl, hx, ht, hd, hl, k⟩ := h
    obtain ⟨dx, N, D, W, L, F, xs, ws, h1, h2, h3, h4, h5, h6, h7, h8, h9⟩ := hx
    have nd := scHistory.nd
    refine ⟨_, pss_one (ps_ret (pe_lc (own := [("answers", 1), ("word", 2)]) (g := gTup K 2 (gCons (gName 1) (gCons (gName 2) gNil))) (tt := tYes) rfl nd (pi_list (pe_fld (pv 0) rfl)) (blkOk_by (N := ["self", "answers", "word"]) (sc := C8.fnScope sHistory) (by decide +kernel))
      (fun _ _ _ _ _ => pg_tup rfl (pgs_cons (pg_name (i := 1) nd rfl (Or.inl rfl)) (pgs_cons (pg_name (i := 2) nd rfl (Or.inl rfl)) pgs_nil))) (fun _ _ _ _ _ => pts_nil)
      (fun _ _ _ _ _ => pe_tup (pa_cons (pe_callTy call_dictD (by rfl) T.b_dict (by decide +kernel) (pa_cons (pv 1) pa_nil)) (pa_cons (pv 2) pa_nil))))), ?_⟩
    refine ⟨_, rfl, x, _, dx, _, _, rfl, h1, T.kSuspects, T.nSuspects_facts, lkF .., F, rfl, ⟨_, SqL.of h8⟩, fun R hR => ?_⟩
    refine lc_all (walk_list (xs := [.ref tu])) (by show 1 ≤ 100000; decide) hR (fun i v H' => ∃ t' d', v = .ref t' ∧ H' t' = some (.tup [.ref d', .str z]) ∧ H' d' = some (.dK (ansK al))) (fun i v H H' e ⟨t', d', g1, g2, g3⟩ => ⟨t', d', g1, e _ _ g2 rfl, e _ _ g3 rfl⟩) (fun H' e => SqL.of (e _ _ h8)) ?_ ?_
    · rintro i v _ H6 hi e6 ⟨rfl, hv⟩ R2 hR2
      obtain rfl : v = .ref tu := by
        match i, hi with
        | 0, _ => exact (Option.some.inj hv).symm
      refine ⟨tu, _, rfl, SqT.of (e6 _ _ ht), rfl, _, _, rfl, _, _, rfl, rfl, rfl, ?_⟩
      refine ⟨_, rfl, d, _, rfl, Rd.of (Ex.refl _ _ _ (e6 _ _ hd)), fun d' hd' => ⟨_, rfl, by show 2 ≤ sizeLine; decide, fun t' ht' => hR2 _ _ ((Ex.new hd').trans (Ex.new ht')) ⟨t', d', rfl, upd_same, Ex.new ht' _ _ upd_same⟩⟩⟩
    · intro ys H6 e6 hR6 ly hy6
      obtain ⟨v, rfl⟩ : ∃ v, ys = [v] := by
        match ys, ly with
        | [v], _ => exact ⟨v, rfl⟩
      obtain ⟨t', d', rfl, g2, g3⟩ := hy6 0 _ rfl
      exact k R t' d' H6 e6 hR6 g2 g3
/-- those whom a column's word leaves -/
def leftBy (ns : List Nm) (ts : List Tr) (ls : List Nat) (al : Ka.Ans) (b : Bool) : List Nat := ls.filter fun i => decide ((ts[i]?.map fun t => Ka.out al.get t) = some b)
theorem led_at {ns : List Nm} {t : Tr} {al : Ka.Ans} {j : Nat} (h : (Ka.answers ns)[j]? = some al) : ((rwS (Ka.led ns t)).map V.str)[j]? = some (.str (outS (Ka.out al.get t))) := by
  unfold rwS Ka.led
  rw [List.getElem?_map, List.getElem?_map, List.getElem?_map, h]; rfl
def spSee (K : PySem.W.Frag) (a : Ad) : Sp := fun vs H Q _ => ∃ (x d : Addr) (b : Bool) (ns : List Nm) (ts : List Tr) (ls : List Nat) (al : Ka.Ans) (j : Nat), vs = [.ref x, .ref d, .str (outS b)] ∧ SusAt a H x ns ts ls [] ∧ ns.Nodup ∧ ns.length ≤ 3 ∧ H d = some (.dK (ansK al)) ∧ (Ka.answers ns)[j]? = some al ∧ (∀ m : Nat, m < j → (Ka.answers ns)[m]? ≠ some al) ∧
  (∀ i ∈ ls, i < ts.length) ∧ ls.length ≤ 1000 ∧ leftBy ns ts ls al b ≠ [] ∧ ∀ H' tu d', (∀ u o, u ≠ x → isL o = false → H u = some o → H' u = some o) → SusAt a H' x ns ts (leftBy ns ts ls al b) [.ref tu] → H' tu = some (.tup [.ref d', .str (outS b)]) → H' d' = some (.dK (ansK al)) → Q (.int (leftBy ns ts ls al b).length) H'
theorem ans_small {ns : List Nm} (h : ns.length ≤ 3) : (Ka.answers ns).length ≤ 64 := by
  rw [Ka.answers_len]
  calc 4 ^ ns.length ≤ 4 ^ 3 := Nat.pow_le_pow_right (by decide) h
    _ = 64 := rfl
set_option maxHeartbeats 32000000 in
theorem ok_see (T : Tx K mg a) : C8.Met P w K mg base 2 a.cSuspects "see" (spSee K a) [] := by
  refine met_of T.kSuspects T.dSee scSee (fun vs H Q E h => ?_) (fun f cdv A outer s H vs Q E hr h => ?_)
  · obtain ⟨_, _, _, _, _, _, _, _, rfl, _⟩ := h; rfl
  · obtain ⟨x, d, b, ns, ts, ls, al, j, rfl, hx, nds, lns, hd, hj, hno, hls, lls, hne, k⟩ := h
    obtain ⟨dx, N, D, W, L, F, xs, ws, h1, h2, h3, h4, h5, h6, h7, h8, n1, n2, n3, n4⟩ := hx
    have nd := scSee.nd
    have hu := hr.units
    refine ⟨_, pss_cons (ps_expr (C8.pe_c (ok_need_answers T) hr (by decide) (by rfl) (pa_cons (pe_fld (pv 0) rfl) (pa_cons (pv 1) (pa_cons pe_bl pa_nil)))))
      (pss_cons (ps_expr (C8.pe_c (ok_need_word T) hr (by decide) (by rfl) (pa_cons (pv 2) pa_nil)))
      (pss_cons (ps_set (i := 3) nd rfl (Or.inr rfl) (pe_bm PySem.F.plainAttrs_list PySem.F.slot_list_index PySem.F.type_list_index (mt_indexA hu) (pe_fld (pv 0) rfl) (pa_cons (pv 1) pa_nil)))
      (pss_cons (ps_setLc (i := 4) (own := [("index", 5)]) (g := gName 5) (tt := tTest (tOp rEq (tOp (rIxT K) (tOp (rIxL K) (tFld K (tVar 0) "led_words") (tVar 5)) (tVar 3)) (tVar 2))) (te := tVar 5) rfl nd rfl rfl (sw_true rfl rfl rfl (by decide +kernel)) (pi_list (pe_fld (pv 0) rfl)) (blkOk_by (N := ["self", "answers", "word", "column", "left", "index"]) (sc := C8.fnScope sSee) (by decide +kernel))
          (fun _ _ _ _ _ => pg_name (i := 5) nd rfl (Or.inl rfl)) (fun _ _ _ _ _ => pts_one (pt_cmpR op_eq (pe_ix ix_tup (pe_ix ix_list (pe_fld (pv 0) rfl) (pv 5) (fun _ _ => rfl)) (pv 3) (fun _ _ => rfl)) (pv 2) (nomark _))) (fun _ _ _ _ _ => pv 5))
      (pss_cons (ps_if (pt_cmpR (op_eqD hu) (pv 4) (pe_lst pa_nil) (nomark _)) pss_never pss_nil)
      (pss_cons (ps_fld (pv 0) (pv 4) rfl)
      (pss_cons (ps_expr (pe_bm PySem.F.plainAttrs_list PySem.F.slot_list_append PySem.F.type_list_append mt_append (pe_fld (pv 0) rfl) (pa_cons (pe_tup (pa_cons (pe_callTy call_dictD (by rfl) T.b_dict (by decide +kernel) (pa_cons (pv 1) pa_nil)) (pa_cons (pv 2) pa_nil))) pa_nil)))
      (pss_one (ps_ret (pe_callB call_len_seq (by rfl) T.b_len PySem.boot_len (pa_cons (pv 4) pa_nil)))))))))), ?_⟩
    have keys : al.map (·.1) = ns := Ka.mem_answers.mp (List.mem_of_getElem? hj)
    refine ⟨_, rfl, x, _, dx, _, _, rfl, h1, T.kSuspects, T.nSuspects_all_names, lkN .., _, rfl, N, d, ns, al, rfl, h2, hd, keys, lns, fun H1 e1 => ?_⟩
    refine ⟨_, rfl, b, rfl, fun H2 e2 => ?_⟩
    have e02 := e1.trans e2
    have la := ans_small lns
    refine ⟨_, rfl, x, _, dx, _, _, rfl, e02 _ _ h1, T.kSuspects, T.nSuspects_all_rows, lkD .., .inl ⟨rfl, _, SqL.of (e02 _ _ h3)⟩, _, rfl, D, d, xs, Ka.answers ns, al, j, rfl, rfl, SqL.of (e02 _ _ h3), h4.mono (NL.of e02), e02 _ _ hd, (fun bb hb => by rw [keys]; exact Ka.mem_answers.mp hb), by rw [keys]; exact nds, by omega, hj, hno, ?_⟩
    refine ⟨_, rfl, x, _, dx, _, _, rfl, e02 _ _ h1, T.kSuspects, T.nSuspects_left, lkL .., L, rfl, ⟨_, SqL.of (e02 _ _ h7)⟩, fun G hG => ?_⟩
    have lnl : (nats ls).length = ls.length := List.length_map _
    refine lc_it walk_list (fun i H' => Ex H2 H' ∧ H' G = some (.lst (nats (leftBy ns ts (ls.take i) al b)))) ⟨Ex.new hG, upd_same⟩ (fun i H' _ ⟨e, _⟩ => SqL.of (e _ _ (e02 _ _ h7))) ?_ ?_
    · rintro i v _ H3 hi ⟨e3, hG3⟩ ⟨rfl, hv⟩
      rw [lnl] at hi
      obtain rfl : v = .int (ls[i] : Nat) := by
        rw [nats, List.getElem?_map, List.getElem?_eq_getElem hi] at hv
        exact (Option.some.inj hv).symm
      have hlt := hls ls[i] (List.getElem_mem hi)
      obtain ⟨q, hq1, hq2⟩ := h6.row ls[i] _ (List.getElem?_eq_getElem hlt)
      have e03 := e02.trans e3
      have hst : leftBy ns ts (ls.take (i + 1)) al b = leftBy ns ts (ls.take i) al b ++ (if Ka.out al.get ts[ls[i]] = b then [ls[i]] else []) := by
        unfold leftBy
        rw [take_some (List.getElem?_eq_getElem hi), List.filter_append]
        congr 1
        have : (decide ((ts[ls[i]]?.map fun t => Ka.out al.get t) = some b)) = decide (Ka.out al.get ts[ls[i]] = b) := by
          rw [List.getElem?_eq_getElem hlt]; simp
        by_cases hb : Ka.out al.get ts[ls[i]] = b
        · rw [if_pos hb, List.filter_cons, this, decide_eq_true hb]; rfl
        · rw [if_neg hb, List.filter_cons, this, decide_eq_false hb]; rfl
      refine ⟨rfl, _, rfl, x, _, dx, _, _, rfl, e03 _ _ h1, T.kSuspects, T.nSuspects_led_words, lkW .., _, rfl, W, _, _, _, rfl, rfl, SqL.of (e03 _ _ h5), atI_nat hq1, _, rfl, q, _, _, _, rfl, rfl, SqT.of (e03 _ _ hq2), atI_nat (led_at hj), _, rfl, rfl, ?_⟩
      rw [out_ne]
      by_cases hb : Ka.out al.get ts[ls[i]] = b
      · rw [decide_eq_true hb]
        refine ⟨true, rfl, iteT ⟨_, rfl, _, hG3, ?_, e3.mut hG, ?_⟩⟩
        · have := List.length_filter_le (fun i => decide ((ts[i]?.map fun t => Ka.out al.get t) = some b)) (ls.take i)
          rw [List.length_take] at this
          rw [nats, List.length_map]; exact sz_lt (by unfold leftBy; omega)
        · rw [upd_same, hst, if_pos hb, nats, nats, List.map_append]; rfl
      · rw [decide_eq_false hb]
        refine ⟨false, rfl, iteF ⟨e3, ?_⟩⟩
        rw [hG3, hst, if_neg hb, List.append_nil]
    · rintro H3 ⟨e3, hG3⟩
      rw [lnl, List.take_length] at hG3
      have e03 := e02.trans e3
      have hG0 : H G = none := fresh_back e02 hG
      refine ⟨_, rfl, Nat.zero_le _, fun z hz => ⟨_, _, natD_dp (SqL.of (Ex.new hz _ _ hG3)), .lst (SqL.of upd_same) .nil, natD_shaped _, by decide, ?_⟩⟩
      rw [show PyData.eqv (natD (leftBy ns ts ls al b)) (.list []) = false by
        unfold natD; rw [list_eqv_nil]
        cases hh : leftBy ns ts ls al b with
        | nil => exact absurd hh hne
        | cons _ _ => rfl]
      refine ⟨false, rfl, iteF ?_⟩
      have e4 : Ex H (upd H3 z (.lst [])) := e03.trans (Ex.new hz)
      have hG4 := Ex.new (o := .lst []) hz _ _ hG3
      generalize upd H3 z (.lst []) = H4 at e4 hG4 ⊢
      have hx4 := e4 _ _ h1
      refine ⟨_, rfl, _, rfl, x, a.cSuspects, dx, _, rfl, hx4, T.kSuspects, T.nSuspects_left, (by show 5 < 1000; decide), ?_⟩
      rw [putL]
      have nFx : F ≠ x := ne_of (e4 _ _ h8) hx4 (by intro z; cases z)
      have nGx : G ≠ x := ne_of hG4 hx4 (by intro z; cases z)
      have nFG : F ≠ G := ne_of_none h8 hG0
      have ndx : d ≠ x := ne_of (e4 _ _ hd) hx4 (by intro z; cases z)
      refine ⟨_, rfl, x, _, dx, _, _, rfl, upd_same, T.kSuspects, T.nSuspects_facts, lkF .., .inl ⟨rfl, _, SqL.of (by rw [upd_ne nFx]; exact e4 _ _ h8)⟩, ?_⟩
      refine ⟨_, rfl, d, _, rfl, Rd.of (by rw [upd_ne ndx]; exact e4 _ _ hd), fun d' hd' => ⟨_, rfl, by show 2 ≤ sizeLine; decide, fun tu htu => ?_⟩⟩
      have e5 : Ex (upd H4 x (.ins a.cSuspects dx (fS N D W G F))) (upd (upd (upd H4 x (.ins a.cSuspects dx (fS N D W G F))) d' (.dK (ansK al))) tu (.tup [.ref d', .str (outS b)])) := (Ex.new hd').trans (Ex.new htu)
      have htu5 : (upd (upd (upd H4 x (.ins a.cSuspects dx (fS N D W G F))) d' (.dK (ansK al))) tu (.tup [.ref d', .str (outS b)])) tu = some (.tup [.ref d', .str (outS b)]) := upd_same
      have hd5 : (upd (upd (upd H4 x (.ins a.cSuspects dx (fS N D W G F))) d' (.dK (ansK al))) tu (.tup [.ref d', .str (outS b)])) d' = some (.dK (ansK al)) := Ex.new htu _ _ upd_same
      generalize upd (upd (upd H4 x (.ins a.cSuspects dx (fS N D W G F))) d' (.dK (ansK al))) tu (.tup [.ref d', .str (outS b)]) = H5 at e5 htu5 hd5 ⊢
      have hx5 : H5 x = some (.ins a.cSuspects dx (fS N D W G F)) := e5 _ _ upd_same
      have up : ∀ u o, u ≠ x → H4 u = some o → H5 u = some o := fun u o hux ho => e5 _ _ (by rw [upd_ne hux]; exact ho)
      have hF5 := up _ _ nFx (e4 _ _ h8)
      have hG5 := up _ _ nGx hG4
      have nNx : N ≠ x := ne_of (e4 _ _ h2) hx4 (by intro z; cases z)
      have nDx : D ≠ x := ne_of (e4 _ _ h3) hx4 (by intro z; cases z)
      have nWx : W ≠ x := ne_of (e4 _ _ h5) hx4 (by intro z; cases z)
      have hA5 : AnsL H5 (Ka.answers ns) xs := ((h4.mono (NL.of e4)).updx hx4).mono (NL.of e5)
      have hw5 : WordsAt H5 ns ts ws := ((h6.mono (NL.of e4)).updx hx4).mono (NL.of e5)
      have nl : NL H5 (upd H5 F (.lst ([] ++ [.ref tu]))) := (NL.refl H5).put hF5
      refine ⟨F, [], _, rfl, rfl, hF5, by show 0 < sizeLine; decide, ?_⟩
      have lG : (upd H5 F (.lst ([] ++ [V.ref tu]))) G = some (.lst (nats (leftBy ns ts ls al b))) := by rw [upd_ne nFG.symm]; exact hG5
      refine ⟨_, rfl, G, _, rfl, .inl (SqL.of lG), ?_⟩
      rw [show (nats (leftBy ns ts ls al b)).length = (leftBy ns ts ls al b).length from List.length_map _]
      refine k _ tu d' (fun u o hux ho hu => nl _ _ (up _ _ hux (e4 _ _ hu)) ho) ⟨dx, N, D, W, G, F, xs, ws, by rw [upd_ne nFx.symm]; exact hx5, ?_, ?_, hA5.mono nl, ?_, hw5.mono nl, lG, upd_same, n1, n2, n3, nFG⟩ (nl _ _ htu5 rfl) (nl _ _ hd5 rfl)
      · rw [upd_ne n1.symm]; exact up _ _ nNx (e4 _ _ h2)
      · rw [upd_ne n2.symm]; exact up _ _ nDx (e4 _ _ h3)
      · rw [upd_ne n3.symm]; exact up _ _ nWx (e4 _ _ h5)
end
end Kb

set_option Elab.async false
set_option linter.all false
set_option maxRecDepth 100000
set_option maxHeartbeats 8000000
/-! Suspects: groups. -/
namespace Kb
open PySem PySem.Spec PyProof.Rows L2 Evl
open Ka (Nm Res Mk Tr)
/-- groups by key, in the order of their first -/
def insG (gs : List (List Bool × List Nat)) (k : List Bool) (i : Nat) : List (List Bool × List Nat) := if k ∈ gs.map (·.1) then gs.map (fun g => if g.1 = k then (g.1, g.2 ++ [i]) else g) else gs ++ [(k, [i])]
def grp (f : Nat → List Bool) (ls : List Nat) : List (List Bool × List Nat) := ls.foldl (fun gs i => insG gs (f i) i) []
/-- row address, its list, and what stands there -/
abbrev GE := List Bool × Addr × Addr × List Nat
def gV (e : GE) : List Bool × List Nat := (e.1, e.2.2.2)
def gN (e : GE) : NE := (rwK e.1, e.2.1, .ref e.2.2.1)
def ledOf (ns : List Nm) (ts : List Tr) (i : Nat) : List Bool := (ts[i]?.map (Ka.led ns)).getD []
structure GAt (K : PySem.W.Frag) (H0 H : Hp) (d : Addr) (es : List GE) : Prop where
  key : ∀ e ∈ es, SqT K H e.2.1 ((rwS e.1).map V.str)
  lst : ∀ e ∈ es, H e.2.2.1 = some (.lst (nats e.2.2.2))
  new : ∀ e ∈ es, H0 e.2.2.1 = none
  ndk : (es.map (·.1)).Nodup
  nda : (es.map (·.2.2.1)).Nodup
theorem nodup_at {α β : Type} {f : α → β} : ∀ {l : List α}, (l.map f).Nodup → ∀ {x y : α}, x ∈ l → y ∈ l → f x = f y → x = y
  | [], _, _, _, hx, _, _ => by cases hx
  | z :: l, h, x, y, hx, hy, e => by
    rw [List.map_cons, List.nodup_cons] at h
    rcases List.mem_cons.mp hx with ex | hx
    · rcases List.mem_cons.mp hy with ey | hy
      · rw [ex, ey]
      · exact absurd (show f z ∈ l.map f from List.mem_map.mpr ⟨y, hy, by rw [← e, ex]⟩) h.1
    · rcases List.mem_cons.mp hy with ey | hy
      · exact absurd (show f z ∈ l.map f from List.mem_map.mpr ⟨x, hx, by rw [e, ey]⟩) h.1
      · exact nodup_at h.2 hx hy e
theorem gdp {K : PySem.W.Frag} {H : Hp} : ∀ es : List GE, (∀ e ∈ es, H e.2.2.1 = some (.lst (nats e.2.2.2))) → DpAll K H (es.map fun e => V.ref e.2.2.1) (es.map fun e => natD e.2.2.2)
  | [], _ => .nil
  | e :: es, h => .cons (natD_dp (SqL.of (h e List.mem_cons_self))) (gdp es fun e' he => h e' (List.mem_cons_of_mem _ he))
section
variable {P : Program} {w : World} {K : PySem.W.Frag} {mg : Str → Option Value} {base : Heap} {a : Ad}
def spGroups (K : PySem.W.Frag) (a : Ad) : Sp := fun vs H Q _ => ∃ x ns ts ls fa, vs = [.ref x] ∧ SusAt a H x ns ts ls fa ∧ (∀ i ∈ ls, i < ts.length) ∧ ls.length ≤ 900 ∧ ∀ p H', Ex H H' → (∀ H2, Ex H' H2 → Dp K H2 (.ref p) (.list ((grp (ledOf ns ts) ls).map fun g => natD g.2))) → Q (.ref p) H'
theorem sqt_ext2 {K : PySem.W.Frag} {H H' : Hp} {p : Addr} {xs : List V} (e : ∀ b ys, H b = some (.tup ys) → H' b = some (.tup ys)) (e2 : ∀ b u ys, H b = some (.frz u ys) → H' b = some (.frz u ys)) (h : SqT K H p xs) : SqT K H' p xs := by
  rcases h with (h | ⟨u, h⟩) | h
  · exact .inl (.inl (e _ _ h))
  · exact .inl (.inr ⟨u, e2 _ _ _ h⟩)
  · exact .inr h
set_option maxHeartbeats 32000000 in
theorem ok_groups (T : Tx K mg a) : C8.Met P w K mg base 1 a.cSuspects "groups" (spGroups K a) [] := by
  refine met_of T.kSuspects T.dGroups scGroups (fun vs H Q E h => ?_) (fun f cdv A outer s H vs Q E hr h => ?_)
  · obtain ⟨_, _, _, _, _, rfl, _⟩ := h; rfl
  · obtain ⟨x, ns, ts, ls, fa, rfl, hx, hls, lls, k⟩ := h
    obtain ⟨dx, N, D, W, L, F, xs, ws, h1, h2, h3, h4, h5, h6, h7, h8, n1, n2, n3, n4⟩ := hx
    have nd := scGroups.nd
    have hu := hr.units
    refine ⟨_, pss_cons (ps_set (i := 1) nd rfl (Or.inl rfl) pe_dnewN)
      (pss_cons (ps_for PassesOwn.never rfl (pi_list (pe_fld (pv 0) rfl)) (pg_name (i := 2) nd rfl (Or.inl rfl))
        (pss_one (ps_expr (pe_bm PySem.F.plainAttrs_list PySem.F.slot_list_append PySem.F.type_list_append mt_append (pe_nsetd hu (pv 1) (pe_ix ix_list (pe_fld (pv 0) rfl) (pv 2) (fun _ _ => rfl)) (pe_lst pa_nil) ⟨rfl, rfl, rfl, rfl⟩) (pa_cons (pv 2) pa_nil)))))
      (pss_one (ps_ret (pe_nvals rfl (pv 1) (by rfl) T.b_list)))), ?_⟩
    refine fun d hd => ⟨_, rfl, x, _, dx, _, _, rfl, Ex.new hd _ _ h1, T.kSuspects, T.nSuspects_left, lkL .., L, rfl, ⟨_, SqL.of (Ex.new hd _ _ h7)⟩, ?_⟩
    have lnl : (nats ls).length = ls.length := List.length_map _
    have hdx : H d = none := hd
    refine for_it walk_list (fun i σ H' => ∃ y2 es, σ = [some (.ref x), some (.ref d), y2] ∧ Ex H H' ∧ H' d = some (DkO P w d (es.map gN)) ∧ GAt K H H' d es ∧ es.map gV = grp (ledOf ns ts) (ls.take i) ∧ es.length ≤ i ∧ ∀ e ∈ es, e.2.2.2.length ≤ i)
      ⟨none, [], rfl, Ex.new hd, upd_same, ⟨(fun e he => by cases he), (fun e he => by cases he), (fun e he => by cases he), List.nodup_nil, List.nodup_nil⟩, rfl, Nat.le_refl _, (fun e he => by cases he)⟩ (fun i σ H' _ ⟨_, _, _, e, _⟩ => SqL.of (e _ _ h7)) ?_ ?_
    · rintro i v σ _ H1 hi ⟨y2, es, rfl, e1, hd1, G, eg, le, lei⟩ ⟨rfl, hv⟩
      rw [lnl] at hi
      obtain rfl : v = .int (ls[i] : Nat) := by
        rw [nats, List.getElem?_map, List.getElem?_eq_getElem hi] at hv
        exact (Option.some.inj hv).symm
      have hlt := hls ls[i] (List.getElem_mem hi)
      obtain ⟨q, hq1, hq2⟩ := h6.row ls[i] _ (List.getElem?_eq_getElem hlt)
      have hled : ledOf ns ts ls[i] = Ka.led ns ts[ls[i]] := by unfold ledOf; rw [List.getElem?_eq_getElem hlt]; rfl
      have egn : grp (ledOf ns ts) (ls.take (i + 1)) = insG (es.map gV) (Ka.led ns ts[ls[i]]) ls[i] := by
        rw [eg, ← hled, take_some (List.getElem?_eq_getElem hi)]
        unfold grp
        rw [List.foldl_append]; rfl
      rw [egn]
      generalize Ka.led ns ts[ls[i]] = B at hq2 ⊢
      generalize ls[i] = m at hq1 ⊢
      have hq21 := e1 _ _ hq2
      refine ⟨_, rfl, d, es.map gN, rfl, hd1, _, rfl, x, _, dx, _, _, rfl, e1 _ _ h1, T.kSuspects, T.nSuspects_led_words, lkW .., _, rfl, W, _, _, _, rfl, rfl, SqL.of (e1 _ _ h5), atI_nat hq1, Nat.zero_le _, fun z hz => ?_⟩
      have e2 : Ex H1 (upd H1 z (.lst [])) := Ex.new hz
      have hz2 : (upd H1 z (.lst [])) z = some (.lst []) := upd_same
      have hz0 : H z = none := fresh_back e1 hz
      generalize upd H1 z (.lst []) = H2 at e2 hz2 ⊢
      have hkq : KAt (cxOf C8.CX0 P w K mg base ["self", "found", "index"] "Suspects.groups" (C8.fnScope sGroups) f cdv A outer s H E).nox H2 (rwK B) q := kat_row (SqT.of (e2 _ _ hq21))
      have hall : ∀ y ∈ es.map gN, KAt (cxOf C8.CX0 P w K mg base ["self", "found", "index"] "Suspects.groups" (C8.fnScope sGroups) f cdv A outer s H E).nox H2 y.1 y.2.1 := by
        intro y hy
        obtain ⟨e, he, rfl⟩ := List.mem_map.mp hy
        exact kat_row (ex_t e2 (G.key e he))
      have hkeys : rwK B ∈ (es.map gN).map (·.1) ↔ B ∈ (es.map gV).map (·.1) := by
        rw [List.map_map, List.map_map, List.mem_map, List.mem_map]
        constructor
        · rintro ⟨e, he, eq⟩; exact ⟨e, he, rwK_inj eq⟩
        · rintro ⟨e, he, eq⟩; exact ⟨e, he, by show rwK e.1 = rwK B; rw [show e.1 = B from eq]⟩
      refine ⟨q, rwK B, rfl, e2 _ _ hd1, hkq, hall, by rw [List.length_map]; omega, fun v hv hm => .inl ?_, fun hn => ?_⟩
      · have hB := hkeys.mp hm
        have hB2 : B ∈ es.map (·.1) := by rw [List.map_map] at hB; exact hB
        obtain ⟨e, he, rfl⟩ := List.mem_map.mp hB2
        obtain rfl := hv (gN e) (List.mem_map.mpr ⟨e, he, rfl⟩) rfl
        have hl2 := e2 _ _ (G.lst e he)
        have hed : e.2.2.1 ≠ d := ne_of (G.lst e he) hd1 (by intro z; cases z)
        refine ⟨.inl ⟨rfl, _, SqL.of hl2⟩, _, rfl, e.2.2.1, nats e.2.2.2, _, rfl, rfl, hl2, ?_, ?_⟩
        · have := lei e he
          rw [nats, List.length_map]; exact sz_lt (by omega)
        refine ⟨_, es.map (fun g => if g.1 = e.1 then (g.1, g.2.1, g.2.2.1, g.2.2.2 ++ [m]) else g), rfl, (e1.trans e2).mut (G.new e he), ?_, ⟨?_, ?_, ?_, ?_, ?_⟩, ?_, by rw [List.length_map]; omega, ?_⟩
        · rw [upd_ne hed.symm, List.map_map]
          refine (e2 _ _ hd1).trans ?_
          congr 2
          refine List.map_congr_left fun g _ => ?_
          show gN g = gN (if g.1 = e.1 then _ else g)
          split <;> rfl
        · intro g hg
          obtain ⟨g0, hg0, rfl⟩ := List.mem_map.mp hg
          have nl : NL H1 (upd H2 e.2.2.1 (.lst (nats e.2.2.2 ++ [.int (m : Nat)]))) := (NL.of e2).put hl2
          have := nl.t (G.key g0 hg0)
          split <;> exact this
        · intro g hg
          obtain ⟨g0, hg0, rfl⟩ := List.mem_map.mp hg
          by_cases hge : g0.1 = e.1
          · rw [if_pos hge]
            obtain rfl := nodup_at G.ndk hg0 he hge
            show upd H2 g0.2.2.1 _ g0.2.2.1 = some (.lst (nats (g0.2.2.2 ++ [m])))
            rw [upd_same, nats, nats, List.map_append]; rfl
          · rw [if_neg hge, upd_ne (fun z => hge (by rw [nodup_at G.nda hg0 he z]))]
            exact e2 _ _ (G.lst g0 hg0)
        · intro g hg
          obtain ⟨g0, hg0, rfl⟩ := List.mem_map.mp hg
          have := G.new g0 hg0
          split <;> exact this
        · have : (es.map (fun g => if g.1 = e.1 then (g.1, g.2.1, g.2.2.1, g.2.2.2 ++ [m]) else g)).map (·.1) = es.map (·.1) := by
            rw [List.map_map]; exact List.map_congr_left fun g _ => by show (if g.1 = e.1 then _ else g).1 = g.1; split <;> rfl
          rw [this]; exact G.ndk
        · have : (es.map (fun g => if g.1 = e.1 then (g.1, g.2.1, g.2.2.1, g.2.2.2 ++ [m]) else g)).map (·.2.2.1) = es.map (·.2.2.1) := by
            rw [List.map_map]; exact List.map_congr_left fun g _ => by show (if g.1 = e.1 then _ else g).2.2.1 = g.2.2.1; split <;> rfl
          rw [this]; exact G.nda
        · unfold insG
          rw [if_pos hB, List.map_map, List.map_map]
          refine List.map_congr_left fun g _ => ?_
          show gV (if g.1 = e.1 then _ else g) = if (gV g).1 = e.1 then _ else gV g
          by_cases hge : g.1 = e.1
          · rw [if_pos hge, if_pos (show (gV g).1 = e.1 from hge)]; rfl
          · rw [if_neg hge, if_neg (show ¬ (gV g).1 = e.1 from hge)]
        · intro g hg
          obtain ⟨g0, hg0, rfl⟩ := List.mem_map.mp hg
          have := lei g0 hg0
          split
          · show (g0.2.2.2 ++ [m]).length ≤ i + 1
            rw [List.length_append]; show g0.2.2.2.length + 1 ≤ i + 1; omega
          · omega
      · have hB : ¬ B ∈ (es.map gV).map (·.1) := fun z => hn (hkeys.mpr z)
        have nzd : z ≠ d := ne_of hz2 (e2 _ _ hd1) (by intro z; cases z)
        refine ⟨.inl ⟨rfl, _, SqL.of (by rw [upd_ne nzd]; exact hz2)⟩, _, rfl, z, [], _, rfl, rfl, by rw [upd_ne nzd]; exact hz2, by show 0 < sizeLine; decide, ?_⟩
        refine ⟨_, es ++ [(B, q, z, [m])], rfl, (((e1.trans e2).mut hdx).mut hz0), ?_, ⟨?_, ?_, ?_, ?_, ?_⟩, ?_, by rw [List.length_append]; show es.length + 1 ≤ i + 1; omega, ?_⟩
        · rw [upd_ne nzd.symm, upd_same, List.map_append]; rfl
        · intro g hg
          have key2 : ∀ (qq : Addr) ys, SqT K H2 qq ys → SqT K (upd (upd H2 d (DkO P w d (es.map gN ++ [(rwK B, q, V.ref z)]))) z (.lst ([] ++ [.int (m : Nat)]))) qq ys := by
            intro qq ys hh
            have s1 := sqt_upd (o := DkO P w d (es.map gN ++ [(rwK B, q, V.ref z)])) hh (e2 _ _ hd1)
            exact ((NL.refl _).put (by rw [upd_ne nzd]; exact hz2)).t s1
          rcases List.mem_append.mp hg with hg | hg
          · exact key2 _ _ (ex_t e2 (G.key g hg))
          · obtain rfl := List.mem_singleton.mp hg
            exact key2 _ _ (SqT.of (e2 _ _ hq21))
        · intro g hg
          rcases List.mem_append.mp hg with hg | hg
          · have hg1 := G.lst g hg
            rw [upd_ne (ne_of_none hg1 hz), upd_ne (ne_of hg1 hd1 (by intro z; cases z))]
            exact e2 _ _ hg1
          · obtain rfl := List.mem_singleton.mp hg
            exact upd_same
        · intro g hg
          rcases List.mem_append.mp hg with hg | hg
          · exact G.new g hg
          · obtain rfl := List.mem_singleton.mp hg
            exact hz0
        · rw [List.map_append, List.nodup_append]
          refine ⟨G.ndk, by simp, fun u hu v hv => ?_⟩
          obtain rfl := List.mem_singleton.mp hv
          rintro rfl
          exact hB (by rw [List.map_map]; exact hu)
        · rw [List.map_append, List.nodup_append]
          refine ⟨G.nda, by simp, fun u hu v hv => ?_⟩
          have ev : v = z := List.mem_singleton.mp hv
          rw [ev]
          intro e0
          obtain ⟨g, hg, e⟩ := List.mem_map.mp hu
          have g3 := G.lst g hg
          rw [show g.2.2.1 = z from e.trans e0, hz] at g3
          cases g3
        · unfold insG
          rw [if_neg hB, List.map_append]; rfl
        · intro g hg
          rcases List.mem_append.mp hg with hg | hg
          · have := lei g hg; omega
          · obtain rfl := List.mem_singleton.mp hg
            show 1 ≤ i + 1; omega
    · rintro σ H1 ⟨y2, es, rfl, e1, hd1, G, eg, le, lei⟩
      rw [lnl, List.take_length] at eg
      rw [lnl] at le
      refine ⟨_, rfl, d, es.map gN, rfl, hd1, by rw [List.length_map]; omega, fun p hp => k p _ (e1.trans (Ex.new hp)) fun H2 e2 => .lst (SqL.of (e2 _ _ upd_same)) ?_⟩
      rw [List.map_map, ← eg, List.map_map]
      exact gdp es fun e he => e2 _ _ (Ex.new hp _ _ (G.lst e he))
end
end Kb

set_option Elab.async false
set_option linter.all false
set_option maxRecDepth 100000
set_option maxHeartbeats 8000000
/-! Suspects: best_answers, fewest_tests. -/
namespace Kb
open PySem PySem.Spec PyProof.Rows L2 Evl
open Ka (Nm Res Mk Tr)
def wordsOf (ts : List Tr) (ls : List Nat) (al : Ka.Ans) : List Bool := ls.map fun i => ((ts[i]?).map fun t => Ka.out al.get t).getD false
/-- the worst of a column -/
def worstI (bs : List Bool) : Int := if ((bs.count false : Nat) : Int) > ((bs.count true : Nat) : Int) then ((bs.count false : Nat) : Int) else ((bs.count true : Nat) : Int)
theorem first_at {α : Type} [DecidableEq α] : ∀ {l : List α} {x : α}, x ∈ l → ∃ j, l[j]? = some x ∧ ∀ m : Nat, m < j → l[m]? ≠ some x
  | a :: l, x, h => by
    by_cases e : a = x
    · exact ⟨0, by rw [e]; rfl, fun m hm => absurd hm (Nat.not_lt_zero m)⟩
    · have hx : x ∈ l := by
        rcases List.mem_cons.mp h with z | z
        · exact absurd z.symm e
        · exact z
      obtain ⟨j, h1, h2⟩ := first_at hx
      refine ⟨j + 1, h1, fun m hm => ?_⟩
      match m with
      | 0 => exact fun z => e (Option.some.inj z)
      | m + 1 => exact h2 m (by omega)
section
variable {P : Program} {w : World} {K : PySem.W.Frag} {mg : Str → Option Value} {base : Heap} {a : Ad}
def spBest (a : Ad) : Sp := fun vs H Q _ => ∃ x ns ts ls fa, vs = [.ref x] ∧ SusAt a H x ns ts ls fa ∧ ns.length ≤ 3 ∧ (∀ i ∈ ls, i < ts.length) ∧ ls.length ≤ 1000 ∧
  ∀ (j : Nat) al p H', (Ka.answers ns)[j]? = some al → (∀ (m : Nat) bl, (Ka.answers ns)[m]? = some bl → worstI (wordsOf ts ls al) ≤ worstI (wordsOf ts ls bl)) → (∀ (m : Nat) bl, m < j → (Ka.answers ns)[m]? = some bl → worstI (wordsOf ts ls bl) ≠ worstI (wordsOf ts ls al)) → Ex H H' → H' p = some (.dK (ansK al)) → Q (.ref p) H'
theorem nm_iV (f : Ka.Ans → Int) (l : List Ka.Ans) : (iV (l.map f)).length = l.length := by rw [iV, List.length_map, List.length_map]
set_option maxHeartbeats 32000000 in
theorem ok_best (T : Tx K mg a) : C8.Met P w K mg base 1 a.cSuspects "best_answers" (spBest a) [] := by
  refine met_of T.kSuspects T.dBest scBest (fun vs H Q E h => ?_) (fun f cdv A outer s H vs Q E hr h => ?_)
  · obtain ⟨_, _, _, _, _, rfl, _⟩ := h; rfl
  · obtain ⟨x, ns, ts, ls, fa, rfl, hx, lns, hls, lls, k⟩ := h
    obtain ⟨dx, N, D, W, L, F, xs, ws, h1, h2, h3, h4, h5, h6, h7, h8, n1, n2, n3, n4⟩ := hx
    have nd := scBest.nd
    have hu := hr.units
    refine ⟨_, pss_cons (ps_set (i := 1) nd rfl (Or.inl rfl) (pe_lst pa_nil))
      (pss_cons (ps_for PassesOwn.never rfl (pi_range1 (by rfl) T.b_range (pa_cons (pe_callB call_len_seq (by rfl) T.b_len PySem.boot_len (pa_cons (pe_fld (pv 0) rfl) pa_nil)) pa_nil)) (pg_name (i := 2) nd rfl (Or.inr rfl))
        (pss_cons (ps_setLc (i := 3) (own := [("index", 4)]) (g := gName 4) (tt := tYes) (te := tOp (rIxT K) (tOp (rIxL K) (tFld K (tVar 0) "led_words") (tVar 4)) (tVar 2)) rfl nd rfl rfl (sw_true rfl rfl rfl (by decide +kernel)) (pi_list (pe_fld (pv 0) rfl)) (blkOk_by (N := ["self", "worst", "column", "words", "index"]) (sc := C8.fnScope sBest) (by decide +kernel))
            (fun _ _ _ _ _ => pg_name (i := 4) nd rfl (Or.inl rfl)) (fun _ _ _ _ _ => pts_nil) (fun _ _ _ _ _ => pe_ix ix_tup (pe_ix ix_list (pe_fld (pv 0) rfl) (pv 4) (fun _ _ => rfl)) (pv 2) (fun _ _ => rfl)))
        (pss_one (ps_expr (pe_bm PySem.F.plainAttrs_list PySem.F.slot_list_append PySem.F.type_list_append mt_append (pv 1) (pa_cons (pe_callB (call_max2 rfl) (by rfl) T.b_max (by decide +kernel)
          (pa_cons (pe_bm PySem.F.plainAttrs_list PySem.F.slot_list_count PySem.F.type_list_count mt_countB (pv 3) (pa_cons (pg T.vIN) pa_nil)) (pa_cons (pe_bm PySem.F.plainAttrs_list PySem.F.slot_list_count PySem.F.type_list_count mt_countB (pv 3) (pa_cons (pg T.vOUT) pa_nil)) pa_nil))) pa_nil))))))
      (pss_one (ps_ret (pe_callTy call_dictD (by rfl) T.b_dict (by decide +kernel) (pa_cons (pe_ix ix_list (pe_fld (pv 0) rfl) (pe_bm PySem.F.plainAttrs_list PySem.F.slot_list_index PySem.F.type_list_index mt_index (pv 1) (pa_cons (pe_callB (cr_min rfl) (by rfl) T.b_min (by decide +kernel) (pa_cons (pv 1) pa_nil)) pa_nil)) (fun _ _ => rfl)) pa_nil))))), ?_⟩
    have la := ans_small lns
    have lx : xs.length = (Ka.answers ns).length := h4.len
    refine ⟨Nat.zero_le _, fun R hR => ?_⟩
    refine ⟨_, rfl, x, _, dx, _, _, rfl, Ex.new hR _ _ h1, T.kSuspects, T.nSuspects_all_rows, lkD .., D, _, rfl, .inl (SqL.of (Ex.new hR _ _ h3)), (xs.length : Int), rfl, by omega, by omega, ?_⟩
    rw [Int.toNat_natCast]
    refine for_it walk_range (fun i σ H' => ∃ y2 y3 y4, σ = [some (.ref x), some (.ref R), y2, y3, y4] ∧ Ex H H' ∧ H' R = some (.lst (iV (((Ka.answers ns).take i).map fun al => worstI (wordsOf ts ls al)))))
      ⟨none, none, none, rfl, Ex.new hR, upd_same⟩ (fun _ _ _ _ _ => trivial) ?_ ?_
    · rintro i v σ _ H1 hi ⟨y2, y3, y4, rfl, e1, hR1⟩ ⟨rfl, rfl⟩
      rw [lx] at hi
      obtain ⟨al, hal⟩ : ∃ al, (Ka.answers ns)[i]? = some al := ⟨_, List.getElem?_eq_getElem hi⟩
      refine ⟨_, rfl, x, _, dx, _, _, rfl, e1 _ _ h1, T.kSuspects, T.nSuspects_left, lkL .., L, rfl, ⟨_, SqL.of (e1 _ _ h7)⟩, fun G hG => ?_⟩
      have lnl : (nats ls).length = ls.length := List.length_map _
      refine lc_it walk_list (fun m H' => Ex H1 H' ∧ H' G = some (.lst (wV (wordsOf ts (ls.take m) al)))) ⟨Ex.new hG, upd_same⟩ (fun m H' _ ⟨e, _⟩ => SqL.of (e _ _ (e1 _ _ h7))) ?_ ?_
      · rintro m v _ H3 hm ⟨e3, hG3⟩ ⟨rfl, hv⟩
        rw [lnl] at hm
        obtain rfl : v = .int (ls[m] : Nat) := by
          rw [nats, List.getElem?_map, List.getElem?_eq_getElem hm] at hv
          exact (Option.some.inj hv).symm
        have hlt := hls ls[m] (List.getElem_mem hm)
        obtain ⟨q, hq1, hq2⟩ := h6.row ls[m] _ (List.getElem?_eq_getElem hlt)
        have e03 := e1.trans e3
        refine ⟨rfl, _, rfl, x, _, dx, _, _, rfl, e03 _ _ h1, T.kSuspects, T.nSuspects_led_words, lkW .., _, rfl, W, _, _, _, rfl, rfl, SqL.of (e03 _ _ h5), atI_nat hq1, _, rfl, q, _, _, _, rfl, rfl, SqT.of (e03 _ _ hq2), by rw [Int.zero_add]; exact atI_nat (led_at hal), _, hG3, ?_, e3.mut hG, ?_⟩
        · rw [wV, List.length_map, wordsOf, List.length_map, List.length_take]; exact sz_lt (by omega)
        · rw [upd_same, take_some (List.getElem?_eq_getElem hm), wordsOf, wordsOf, List.map_append, wV, wV, List.map_append]
          show some (HO.lst (_ ++ [V.str (outS (Ka.out al.get ts[ls[m]]))])) = some (HO.lst (_ ++ [V.str (outS ((ts[ls[m]]?.map fun t => Ka.out al.get t).getD false))]))
          rw [List.getElem?_eq_getElem hlt]; rfl
      · rintro H3 ⟨e3, hG3⟩
        rw [lnl, List.take_length] at hG3
        have hR3 := e3 _ _ hR1
        refine ⟨_, rfl, .inl ⟨rfl, _, SqL.of hR3⟩, _, rfl, .inl ⟨rfl, _, SqL.of hG3⟩, G, _, true, rfl, rfl, SqL.of hG3, _, rfl, .inl ⟨rfl, _, SqL.of hG3⟩, G, _, false, rfl, rfl, SqL.of hG3, _, _, rfl, R, _, _, rfl, rfl, hR3, ?_, ?_⟩
        · rw [nm_iV, List.length_take]; exact sz_lt (by omega)
        · refine ⟨_, _, _, rfl, (e1.trans e3).mut (fresh_back (Ex.refl H) hR), ?_⟩
          rw [upd_same, take_some hal, iV, iV, List.map_append, List.map_append]; rfl
    · rintro σ H1 ⟨y2, y3, y4, rfl, e1, hR1⟩
      rw [lx, List.take_length] at hR1
      have hpos : 0 < (Ka.answers ns).length := by rw [Ka.answers_len]; exact Nat.pow_pos (by decide)
      refine ⟨_, rfl, x, _, dx, _, _, rfl, e1 _ _ h1, T.kSuspects, T.nSuspects_all_rows, lkD .., _, rfl, .inl ⟨rfl, _, SqL.of hR1⟩, _, rfl, R, _, rfl, SqL.of hR1, by rw [List.length_map]; exact hpos, fun m hm hmin => ?_⟩
      obtain ⟨j, hj1, hj2⟩ := first_at hm
      rw [List.getElem?_map] at hj1
      obtain ⟨al, hal, rfl⟩ : ∃ al, (Ka.answers ns)[j]? = some al ∧ worstI (wordsOf ts ls al) = m := by
        cases e : (Ka.answers ns)[j]? with
        | none => rw [e] at hj1; cases hj1
        | some al => rw [e] at hj1; exact ⟨al, rfl, Option.some.inj hj1⟩
      have hjl : j < xs.length := by rw [lx]; exact (List.getElem?_eq_some_iff.mp hal).1
      obtain ⟨pa, al', g1, g2, g3⟩ := h4.at (List.getElem?_eq_getElem hjl)
      rw [hal] at g2
      cases g2
      refine ⟨R, _, _, j, .int (worstI (wordsOf ts ls al)), rfl, rfl, SqL.of hR1, rfl, flat_ints _, ?_, ?_, ?_, ?_⟩
      · rw [iV, List.getElem?_map, List.getElem?_map, hal]; rfl
      · simp [eqV]
      · intro m z hmj hz
        rw [iV, List.getElem?_map, List.getElem?_map] at hz
        cases e : (Ka.answers ns)[m]? with
        | none => rw [e] at hz; cases hz
        | some bl =>
          rw [e] at hz
          obtain rfl := (Option.some.inj hz).symm
          have hn := hj2 m hmj
          rw [List.getElem?_map, e] at hn
          have hne : worstI (wordsOf ts ls bl) ≠ worstI (wordsOf ts ls al) := fun e => hn (by rw [← e]; rfl)
          simpa [eqV] using hne
      · refine ⟨D, _, _, _, rfl, rfl, SqL.of (e1 _ _ h3), atI_nat (List.getElem?_eq_getElem hjl), ?_⟩
        rw [g1]
        refine ⟨pa, _, rfl, Rd.of (e1 _ _ g3), fun p hp => k j al p _ hal (fun m bl hb => hmin _ (List.mem_map.mpr ⟨bl, List.mem_of_getElem? hb, rfl⟩)) (fun m bl hmj hb z => hj2 m hmj (by rw [List.getElem?_map, hb, ← z]; rfl)) (e1.trans (Ex.new hp)) upd_same⟩
/-! ### fewest_tests -/
theorem pick_rows {H : Hp} {g : Nat → List Bool} : ∀ (ys : List V) (ms : List Nat), ys.length = ms.length → (∀ (i : Nat) v, ys[i]? = some v → ∃ m q, ms[i]? = some m ∧ v = .ref q ∧ H q = some (.tup ((rwS (g m)).map V.str))) →
    ∃ ks : List (Addr × List Bool), ys = ks.map (fun p => V.ref p.1) ∧ ks.map (·.2) = ms.map g ∧ ∀ p ∈ ks, H p.1 = some (.tup ((rwS p.2).map V.str))
  | [], [], _, _ => ⟨[], rfl, rfl, fun p hp => (by cases hp)⟩
  | y :: ys, m :: ms, hl, h => by
    obtain ⟨m', q, e1, e2, e3⟩ := h 0 y rfl
    cases e1
    obtain ⟨ks, k1, k2, k3⟩ := pick_rows ys ms (by simpa using hl) fun i v hi => by
      obtain ⟨m', q, g1, g2⟩ := h (i + 1) v (by simpa using hi)
      exact ⟨m', q, by simpa using g1, g2⟩
    refine ⟨(q, g m) :: ks, by rw [k1, e2]; rfl, by rw [List.map_cons, List.map_cons, k2], fun p hp => ?_⟩
    rcases List.mem_cons.mp hp with rfl | hp
    · exact e3
    · exact k3 p hp
theorem unrow : ∀ (L : List (Addr × List Str)) (ks : List (Addr × List Bool)), (∀ p ∈ L, p ∈ ks.map fun p => (p.1, rwS p.2)) → ∃ Lb : List (Addr × List Bool), L = Lb.map (fun p => (p.1, rwS p.2)) ∧ ∀ p ∈ Lb, p ∈ ks
  | [], _, _ => ⟨[], rfl, fun p hp => (by cases hp)⟩
  | p :: L, ks, h => by
    obtain ⟨p0, hp0, e⟩ := List.mem_map.mp (h p List.mem_cons_self)
    obtain ⟨Lb, l1, l2⟩ := unrow L ks fun q hq => h q (List.mem_cons_of_mem _ hq)
    refine ⟨p0 :: Lb, by rw [l1, ← e]; rfl, fun q hq => ?_⟩
    rcases List.mem_cons.mp hq with rfl | hq
    · exact hp0
    · exact l2 q hq
theorem nodup_of_map {α β : Type} {f : α → β} : ∀ {l : List α}, (l.map f).Nodup → l.Nodup
  | [], _ => List.nodup_nil
  | a :: l, h => by
    rw [List.map_cons, List.nodup_cons] at h
    rw [List.nodup_cons]
    exact ⟨fun z => h.1 (List.mem_map.mpr ⟨a, z, rfl⟩), nodup_of_map h.2⟩
theorem rw_mem {l : List (Addr × List Bool)} {y : List Bool} : y ∈ l.map (·.2) ↔ rwS y ∈ (l.map fun p => (p.1, rwS p.2)).map (fun q : Addr × List Str => q.2) := by
  rw [List.map_map, List.mem_map, List.mem_map]
  constructor
  · rintro ⟨p, hp, e⟩; exact ⟨p, hp, by show rwS p.2 = rwS y; rw [e]⟩
  · rintro ⟨p, hp, e⟩; exact ⟨p, hp, rwS_inj e⟩
def spFewG (P : Program) (w : World) (a : Ad) (sp : Sp) : Sp := fun vs H Q _ => ∃ x ns ts ls fa A B, vs = [.ref x] ∧ SusAt a H x ns ts ls fa ∧ ns.length ≤ 3 ∧ (∀ i ∈ ls, i < ts.length) ∧ ls.length ≤ 1000 ∧ (∀ i ∈ ls, ledOf ns ts i = A ∨ ledOf ns ts i = B) ∧
  ∀ (Lb : List (Addr × List Bool)) (R kn : Addr) (H' : Hp), Ex H H' → H' R = some (.lst (Lb.map fun p => V.ref p.1)) → (∀ p ∈ Lb, H' p.1 = some (.tup ((rwS p.2).map V.str)) ∧ p.2 ≠ [] ∧ p.2.length ≤ 64) → (Lb.map (·.2)).Nodup → (∀ y, y ∈ Lb.map (·.2) ↔ y ∈ ls.map (ledOf ns ts)) →
    H' kn = some (DkO P w kn []) → H kn = none → sp [.ref R, .ref kn] H' Q C8.E0
set_option maxHeartbeats 32000000 in
theorem ok_fewG (T : Tx K mg a) {sp : Sp} (c : C8.Cal P w K mg base 2 "fewest_splits" sp []) : C8.Met P w K mg base 3 a.cSuspects "fewest_tests" (spFewG P w a sp) [] := by
  refine met_of T.kSuspects T.dFewest scFewest (fun vs H Q E h => ?_) (fun f cdv A outer s H vs Q E hr h => ?_)
  · obtain ⟨_, _, _, _, _, _, _, rfl, _⟩ := h; rfl
  · obtain ⟨x, ns, ts, ls, fa, A0, B0, rfl, hx, lns, hls, lls, hAB, k⟩ := h
    obtain ⟨dx, N, D, W, L, F, xs, ws, h1, h2, h3, h4, h5, h6, h7, h8, n1, n2, n3, n4⟩ := hx
    have nd := scFewest.nd
    have hu := hr.units
    refine ⟨_, pss_one (ps_ret (C8.pe_c c hr (by decide) (by rfl) (pa_cons (pe_callB (cr_sortedU' (P := P) (w := w) rfl rfl rfl hu) (by rfl) T.b_sorted PyProof.Rows.boot_sorted (pa_cons (pe_callTy (cr_setU' (P := P) (w := w) rfl rfl rfl hu) (by rfl) T.b_set PyProof.Rows.boot_set
      (pa_cons (pe_lc (own := [("index", 1)]) (g := gName 1) (tt := tYes) (te := tOp (rIxL K) (tFld K (tVar 0) "led_words") (tVar 1)) rfl nd (pi_list (pe_fld (pv 0) rfl)) (blkOk_by (N := ["self", "index"]) (sc := C8.fnScope sFewest) (by decide +kernel))
        (fun _ _ _ _ _ => pg_name (i := 1) nd rfl (Or.inl rfl)) (fun _ _ _ _ _ => pts_nil) (fun _ _ _ _ _ => pe_ix ix_list (pe_fld (pv 0) rfl) (pv 1) (fun _ _ => rfl))) pa_nil)) pa_nil)) (pa_cons pe_dnewN pa_nil)))), ?_⟩
    have lnl : (nats ls).length = ls.length := List.length_map _
    refine ⟨_, rfl, x, _, dx, _, _, rfl, h1, T.kSuspects, T.nSuspects_left, lkL .., L, rfl, ⟨_, SqL.of h7⟩, fun G hG => ?_⟩
    refine lc_all walk_list (by rw [lnl]; omega) hG (fun i v H' => ∃ m q, ls[i]? = some m ∧ v = .ref q ∧ H' q = some (.tup ((rwS (ledOf ns ts m)).map V.str))) (fun i v H H' e ⟨m, q, g1, g2, g3⟩ => ⟨m, q, g1, g2, e _ _ g3 rfl⟩) (fun H' e => SqL.of (e _ _ h7)) ?_ ?_
    · rintro i v _ H3 hi e3 ⟨rfl, hv⟩ R2 hR2
      rw [lnl] at hi
      obtain rfl : v = .int (ls[i] : Nat) := by
        rw [nats, List.getElem?_map, List.getElem?_eq_getElem hi] at hv
        exact (Option.some.inj hv).symm
      have hlt := hls ls[i] (List.getElem_mem hi)
      obtain ⟨q, hq1, hq2⟩ := h6.row ls[i] _ (List.getElem?_eq_getElem hlt)
      have hled : ledOf ns ts ls[i] = Ka.led ns ts[ls[i]] := by unfold ledOf; rw [List.getElem?_eq_getElem hlt]; rfl
      exact ⟨rfl, _, rfl, x, _, dx, _, _, rfl, e3 _ _ h1, T.kSuspects, T.nSuspects_led_words, lkW .., _, rfl, W, _, _, _, rfl, rfl, SqL.of (e3 _ _ h5), atI_nat hq1, hR2 _ _ (Ex.refl _) ⟨ls[i], q, List.getElem?_eq_getElem hi, rfl, by rw [hled]; exact e3 _ _ hq2⟩⟩
    · intro ys H3 e3 hG3 ly hy3
      rw [lnl] at ly
      obtain ⟨ks, k1, k2, k3⟩ := pick_rows ys ls ly hy3
      subst k1
      have la := ans_small lns
      have hpos : 0 < (Ka.answers ns).length := by rw [Ka.answers_len]; exact Nat.pow_pos (by decide)
      have hrow : ∀ p ∈ ks, (p.2 = A0 ∨ p.2 = B0) ∧ p.2.length = (Ka.answers ns).length := by
        intro p hp
        have : p.2 ∈ ls.map (ledOf ns ts) := by rw [← k2]; exact List.mem_map.mpr ⟨p, hp, rfl⟩
        obtain ⟨i, hi, e⟩ := List.mem_map.mp this
        refine ⟨by rw [← e]; exact hAB i hi, ?_⟩
        rw [← e]
        unfold ledOf Ka.led
        rw [List.getElem?_eq_getElem (hls i hi)]
        exact List.length_map _
      refine ⟨G, ks.map (fun p => (p.1, rwS p.2)), [rwS A0, rwS B0], rfl, SqL.of (by rw [hG3, List.map_map]; rfl), ?_, by show 2 ≤ 4; decide, ?_, fun S L1 hS ndL sub mem => ?_⟩
      · intro p hp
        obtain ⟨p0, hp0, rfl⟩ := List.mem_map.mp hp
        exact SqT.of (k3 p0 hp0)
      · intro p hp
        obtain ⟨p0, hp0, rfl⟩ := List.mem_map.mp hp
        rcases (hrow p0 hp0).1 with e | e <;> simp [e]
      obtain ⟨Lb, b1, b2⟩ := unrow L1 ks sub
      subst b1
      refine ⟨S, _, rfl, upd_same, ?_, fun L2 p2 pm hp2 => ?_⟩
      · intro p hp
        obtain ⟨p0, hp0, rfl⟩ := List.mem_map.mp hp
        refine ⟨SqT.of (Ex.new hS _ _ (k3 p0 (b2 p0 hp0))), ?_⟩
        refine rwS_ne fun e => ?_
        have := (hrow p0 (b2 p0 hp0)).2
        rw [e] at this
        have : (Ka.answers ns).length = 0 := this.symm
        omega
      obtain ⟨Lb2, c1, c2⟩ := unrow L2 Lb fun p hp => pm.mem_iff.mp hp
      subst c1
      intro kn hkn
      have e4 : Ex H3 (upd (upd (upd H3 S (SetUO P w S (Lb.map fun p => (p.1, rwS p.2)))) p2 (.lst ((Lb2.map fun p => (p.1, rwS p.2)).map fun q => V.ref q.1))) kn (DkO P w kn [])) := ((Ex.new hS).trans (Ex.new hp2)).trans (Ex.new hkn)
      have e34 := e3.trans e4
      have pm2 := pm.map (fun q : Addr × List Str => q.2)
      refine k Lb2 p2 kn _ e34 (Ex.new hkn _ _ (by rw [upd_same, List.map_map]; rfl)) ?_ ?_ ?_ upd_same (fresh_back (e3.trans ((Ex.new hS).trans (Ex.new hp2))) hkn)
      · intro p hp
        have hp3 := b2 p (c2 p hp)
        have hl := (hrow p hp3).2
        exact ⟨e4 _ _ (k3 p hp3), fun e => by rw [e] at hl; have : (Ka.answers ns).length = 0 := hl.symm; omega, by omega⟩
      · refine nodup_of_map (f := rwS) ?_
        have := pm2.nodup_iff.mpr ndL
        rw [List.map_map] at this ⊢
        exact this
      · intro y
        rw [rw_mem, pm2.mem_iff, mem, ← rw_mem, k2]
end
end Kb

set_option Elab.async false
set_option linter.all false
set_option maxRecDepth 100000
set_option maxHeartbeats 8000000
/-! _law_taken, _law_pick, _law_table. -/
namespace Kb
open PySem PySem.Spec PyProof.Rows L2 Evl
open Ka (Nm Res Mk Tr)
/-- the drawer's row -/
def RowAt (H : Hp) (R sc : Addr) : Prop := ∃ (i : Nat) (g l : Int), H R = some (.lst [.ref sc, .int (i : Nat), .int g, .int l]) ∧ 0 ≤ g ∧ g < 2147483647
/-- the script -/
def ScAt (K : PySem.W.Frag) (H : Hp) (R sc : Addr) : Prop := ∃ ns : List Int, ∀ H', Ek R H H' → SqL K H' sc (ns.map V.int)
theorem RowAt.mut {H : Hp} {R sc p : Addr} {o : HO} (h : RowAt H R sc) (n : R ≠ p) : RowAt (upd H p o) R sc := by
  obtain ⟨i, g, l, h1, h2⟩ := h
  exact ⟨i, g, l, by rw [upd_ne n]; exact h1, h2⟩
theorem RowAt.ex {H H' : Hp} {R sc : Addr} (h : RowAt H R sc) (e : Ex H H') : RowAt H' R sc := by
  obtain ⟨i, g, l, h1, h2⟩ := h
  exact ⟨i, g, l, e _ _ h1, h2⟩
theorem RowAt.ne {H : Hp} {R sc p : Addr} (h : RowAt H R sc) (hp : H p = none) : p ≠ R := by
  obtain ⟨i, g, l, h1, _⟩ := h
  exact fun z => by rw [z, h1] at hp; cases hp
section
variable {P : Program} {w : World} {K : PySem.W.Frag} {mg : Str → Option Value} {base : Heap} {a : Ad}
theorem Ek.l {K : PySem.W.Frag} {L q : Addr} {H H' : Hp} {xs : List V} (e : Ek L H H') (n : q ≠ L) (k : SqL K H q xs) : SqL K H' q xs := by
  rcases k with (k | ⟨o, k⟩) | k
  · exact .inl (.inl (e _ _ n k))
  · exact .inl (.inr ⟨o, e _ _ n k⟩)
  · exact .inr k
theorem ScAt.of {H : Hp} {R sc : Addr} {ns : List Int} {o : HO} (h : SqL K H sc (ns.map V.int)) (hR : H R = none) : ScAt K (upd H R o) R sc := by
  refine ⟨ns, fun H' e => ?_⟩
  have e2 : Ek R H H' := Ek.trans (fun b u n h => by rw [upd_ne n]; exact h) e
  rcases h with (h | ⟨u, h⟩) | h
  · exact .inl (.inl (e2 _ _ (ne_of_none h hR) h))
  · exact .inl (.inr ⟨u, e2 _ _ (ne_of_none h hR) h⟩)
  · exact .inr h
theorem ScAt.ek {H H' : Hp} {R sc : Addr} (h : ScAt K H R sc) (e : Ek R H H') : ScAt K H' R sc := by
  obtain ⟨ns, h1⟩ := h
  exact ⟨ns, fun H'' e' => h1 H'' (e.trans e')⟩
theorem Ek.upd {L : Addr} {H : Hp} {o : HO} : Ek L H (upd H L o) := fun b u n h => by rw [upd_ne n]; exact h
def spTaken (K : PySem.W.Frag) : Sp := fun vs H Q _ => ∃ (R sc : Addr) (m : Int), vs = [.ref R, .int m] ∧ 1 ≤ m ∧ m ≤ 100 ∧ RowAt H R sc ∧ ScAt K H R sc ∧ ∀ (k : Nat) H', (k : Int) < m → Ek R H H' → RowAt H' R sc → Q (.int (k : Nat)) H'
set_option maxHeartbeats 16000000 in
theorem ok_taken (T : Tx K mg a) : C8.Cal P w K mg base 1 "_law_taken" (spTaken K) [] := by
  refine cal_of T.dTaken scTaken (fun vs H Q E h => ?_) (fun f cdv A outer s H vs Q E hr h => ?_)
  · obtain ⟨_, _, _, rfl, _⟩ := h; rfl
  · obtain ⟨R, sc, m, rfl, m1, m2, ⟨i, g, l, hR, g1, g2⟩, ⟨ns, hs0⟩, k⟩ := h
    have nd := scTaken.nd
    refine ⟨_, pss_cons (ps_if (pt_cmpR op_gt (pe_ix ix_list (pv 0) pe_int (fun _ _ => rfl)) pe_int (nomark _))
        (pss_cons (ps_set (i := 2) nd rfl (Or.inl rfl) (pe_op op_mod (pe_callTy call_int1 (by rfl) T.b_int PyProof.Rows.boot_int (pa_cons (pe_ix ix_list (pv 0) pe_int (fun _ _ => rfl)) pa_nil)) (pv 1)))
        (pss_cons (ps_asg (pe_op op_fdiv (pe_ix ix_list (pv 0) pe_int (fun _ _ => rfl)) (pv 1)) (pg_sub (pv 0) pe_int set_list (by intro v; rfl)))
        (pss_one (ps_ret (pv 2))))) pss_nil)
      (pss_cons (ps_asg (pe_op op_add (pe_ix ix_list (pv 0) pe_int (fun _ _ => rfl)) pe_int) (pg_sub (pv 0) pe_int set_list (by intro v; rfl)))
      (pss_cons (ps_if (pt_cmpR op_gt (pe_ix ix_list (pv 0) pe_int (fun _ _ => rfl)) (pe_callB call_len_seq (by rfl) T.b_len PySem.boot_len (pa_cons (pe_ix ix_list (pv 0) pe_int (fun _ _ => rfl)) pa_nil)) (nomark _))
        (pss_cons (ps_asg (pe_op op_mod (pe_callTy call_int1 (by rfl) T.b_int PyProof.Rows.boot_int (pa_cons (pe_op op_add (pe_op op_mul (pe_ix ix_list (pv 0) pe_int (fun _ _ => rfl)) pe_int) pe_int) pa_nil)) pe_int) (pg_sub (pv 0) pe_int set_list (by intro v; rfl)))
        (pss_one (ps_ret (pe_op op_mod (pe_callTy call_int1 (by rfl) T.b_int PyProof.Rows.boot_int (pa_cons (pe_op op_fdiv (pe_ix ix_list (pv 0) pe_int (fun _ _ => rfl)) pe_int) pa_nil)) (pv 1))))) pss_nil)
      (pss_cons (ps_set (i := 3) nd rfl (Or.inl rfl) (pe_ix ix_list (pe_ix ix_list (pv 0) pe_int (fun _ _ => rfl)) (pe_op op_sub (pe_ix ix_list (pv 0) pe_int (fun _ _ => rfl)) pe_int) (fun _ _ => rfl)))
      (pss_cons (ps_asg (pe_op op_mod (pe_callTy call_int1 (by rfl) T.b_int PyProof.Rows.boot_int (pa_cons (pe_op op_add (pe_op op_add (pe_op op_mul (pe_ix ix_list (pv 0) pe_int (fun _ _ => rfl)) pe_int) (pv 3)) pe_int) pa_nil)) pe_int) (pg_sub (pv 0) pe_int set_list (by intro v; rfl)))
      (pss_cons (ps_asg (pe_ifExp (pt_cmpR op_ge (pv 3) (pe_op op_pow pe_int pe_int) (nomark _)) (pe_op op_fdiv (pv 3) (pv 1)) pe_int) (pg_sub (pv 0) pe_int set_list (by intro v; rfl)))
      (pss_one (ps_ret (pe_op op_mod (pe_callTy call_int1 (by rfl) T.b_int PyProof.Rows.boot_int (pa_cons (pv 3) pa_nil)) (pv 1))))))))), ?_⟩
    have hm : ∀ z : Int, ∃ n : Nat, z % m = (n : Int) ∧ (n : Int) < m := fun z => by
      have h1 := Int.emod_nonneg z (show m ≠ 0 by omega)
      have h2 := Int.emod_lt_of_pos z (show 0 < m by omega)
      exact ⟨(z % m).toNat, by omega, by omega⟩
    have hM : ∀ z : Int, 0 ≤ z % 2147483647 ∧ z % 2147483647 < 2147483647 := fun z => ⟨Int.emod_nonneg z (by decide), Int.emod_lt_of_pos z (by decide)⟩
    have e0 : ∀ {o}, Ek R H (upd H R o) := Ek.upd
    refine ⟨_, rfl, R, _, _, _, rfl, rfl, SqL.of hR, rfl, _, _, rfl, rfl, ?_⟩
    by_cases hl : l > 0
    · refine ⟨true, congrArg V.bl (decide_eq_true hl), iteT ?_⟩
      refine ⟨_, rfl, R, _, _, _, rfl, rfl, SqL.of hR, rfl, .inl ⟨_, rfl, _, rfl, _, _, rfl, rfl, (by show (0 : Int) < m; omega), ?_⟩⟩
      refine ⟨_, rfl, R, _, _, _, rfl, rfl, SqL.of hR, rfl, _, rfl, _, _, rfl, rfl, ⟨by show (0 : Int) < m; omega, by show m < 1073741824; omega⟩, _, rfl, R, _, 3, 3, rfl, rfl, hR, rfl, ?_⟩
      obtain ⟨n, e1, e2⟩ := hm l
      refine ⟨_, rfl, ?_⟩
      show Q (.int (l % m)) _
      rw [e1]
      exact k n _ e2 e0 ⟨i, g, l / m, upd_same, g1, g2⟩
    · refine ⟨false, congrArg V.bl (decide_eq_false hl), iteF ?_⟩
      refine ⟨_, rfl, R, _, _, _, rfl, rfl, SqL.of hR, rfl, _, _, rfl, rfl, _, rfl, R, _, 1, 1, rfl, rfl, hR, rfl, ?_⟩
      have hR1 : (upd H R (.lst ([.ref sc, .int (i : Nat), .int g, .int l].set 1 (.int ((i : Int) + 1))))) R = some (.lst [.ref sc, .int ((i : Int) + 1), .int g, .int l]) := upd_same
      have e1 : Ek R H (upd H R (.lst ([.ref sc, .int (i : Nat), .int g, .int l].set 1 (.int ((i : Int) + 1))))) := Ek.upd
      generalize upd H R (.lst ([.ref sc, .int (i : Nat), .int g, .int l].set 1 (.int ((i : Int) + 1)))) = H1 at hR1 e1 ⊢
      have hs1 := hs0 _ e1
      refine ⟨_, rfl, R, _, _, _, rfl, rfl, SqL.of hR1, rfl, _, rfl, R, _, _, _, rfl, rfl, SqL.of hR1, rfl, sc, _, rfl, .inl hs1, _, _, rfl, rfl, ?_⟩
      rw [List.length_map]
      by_cases hi : ((i : Int) + 1) > (ns.length : Int)
      · refine ⟨true, congrArg V.bl (decide_eq_true hi), iteT ?_⟩
        refine ⟨_, rfl, R, _, _, _, rfl, rfl, SqL.of hR1, rfl, _, _, rfl, rfl, .inl ⟨by show -(2 ^ 64 : Int) < g; omega, by show g < (2 ^ 64 : Int); omega⟩, _, _, rfl, rfl, .inl ⟨_, rfl, _, _, rfl, rfl, (by show (0 : Int) < 2147483647; decide), _, rfl, R, _, 2, 2, rfl, rfl, hR1, rfl, ?_⟩⟩
        obtain ⟨b1, b2⟩ := hM (g * 48271 + 11)
        have e2 := e1.trans (Ek.upd (o := .lst ([.ref sc, .int ((i : Int) + 1), .int g, .int l].set 2 (.int ((g * 48271 + 11) % 2147483647)))))
        have hR2 : (upd H1 R (.lst ([.ref sc, .int ((i : Int) + 1), .int g, .int l].set 2 (.int ((g * 48271 + 11) % 2147483647))))) R = some (.lst [.ref sc, .int ((i : Int) + 1), .int ((g * 48271 + 11) % 2147483647), .int l]) := upd_same
        generalize upd H1 R (.lst ([.ref sc, .int ((i : Int) + 1), .int g, .int l].set 2 (.int ((g * 48271 + 11) % 2147483647)))) = H2 at e2 hR2 ⊢
        refine ⟨_, rfl, R, _, _, _, rfl, rfl, SqL.of hR2, rfl, _, _, rfl, rfl, ⟨by show (0 : Int) < 7; decide, by show (7 : Int) < 1073741824; decide⟩, .inl ⟨_, rfl, _, rfl, _, _, rfl, rfl, (by show (0 : Int) < m; omega), ?_⟩⟩
        obtain ⟨n, e3, e4⟩ := hm ((g * 48271 + 11) % 2147483647 / 7)
        show Q (.int ((g * 48271 + 11) % 2147483647 / 7 % m)) _
        rw [e3]
        exact k n _ e4 e2 ⟨i + 1, _, l, by rw [hR2]; push_cast; rfl, b1, b2⟩
      · refine ⟨false, congrArg V.bl (decide_eq_false hi), iteF ?_⟩
        have hin : i < ns.length := by omega
        have hat : atI (ns.map V.int) ((i : Int) + 1 - 1) = some (.int ns[i]) := by
          rw [show ((i : Int) + 1 - 1) = (i : Nat) by omega]
          exact atI_nat (by rw [List.getElem?_map, List.getElem?_eq_getElem hin]; rfl)
        refine ⟨_, rfl, R, _, _, _, rfl, rfl, SqL.of hR1, rfl, _, rfl, R, _, _, _, rfl, rfl, SqL.of hR1, rfl, _, _, rfl, rfl, sc, _, _, _, rfl, rfl, hs1, hat, ?_⟩
        generalize ns[i] = c
        refine ⟨_, rfl, R, _, _, _, rfl, rfl, SqL.of hR1, rfl, _, _, rfl, rfl, .inl ⟨by show -(2 ^ 64 : Int) < g; omega, by show g < (2 ^ 64 : Int); omega⟩, _, rfl, _, _, rfl, rfl, _, _, rfl, rfl, .inl ⟨_, rfl, _, _, rfl, rfl, (by show (0 : Int) < 2147483647; decide), _, rfl, R, _, 2, 2, rfl, rfl, hR1, rfl, ?_⟩⟩
        obtain ⟨b1, b2⟩ := hM (g * 48271 + c + 11)
        have e2 := e1.trans (Ek.upd (o := .lst ([.ref sc, .int ((i : Int) + 1), .int g, .int l].set 2 (.int ((g * 48271 + c + 11) % 2147483647)))))
        have hR2 : (upd H1 R (.lst ([.ref sc, .int ((i : Int) + 1), .int g, .int l].set 2 (.int ((g * 48271 + c + 11) % 2147483647))))) R = some (.lst [.ref sc, .int ((i : Int) + 1), .int ((g * 48271 + c + 11) % 2147483647), .int l]) := upd_same
        generalize upd H1 R (.lst ([.ref sc, .int ((i : Int) + 1), .int g, .int l].set 2 (.int ((g * 48271 + c + 11) % 2147483647)))) = H2 at e2 hR2 ⊢
        generalize (g * 48271 + c + 11) % 2147483647 = g' at b1 b2 hR2 ⊢
        refine ⟨_, rfl, 10, 18, rfl, rfl, ⟨by decide, by decide, by decide⟩, _, _, rfl, rfl, ?_⟩
        obtain ⟨n, e3, e4⟩ := hm c
        by_cases hc : c ≥ (10 : Int) ^ 18
        · refine ⟨true, congrArg V.bl (decide_eq_true hc), iteT ⟨_, rfl, _, rfl, _, _, rfl, rfl, ⟨by show (0 : Int) < m; omega, by show m < 1073741824; omega⟩, _, rfl, R, _, 3, 3, rfl, rfl, hR2, rfl, _, rfl, .inl ⟨_, rfl, _, rfl, _, _, rfl, rfl, (by show (0 : Int) < m; omega), ?_⟩⟩⟩
          show Q (.int (c % m)) _
          rw [e3]
          exact k n _ e4 (e2.trans Ek.upd) ⟨i + 1, g', c / m, by rw [upd_same]; push_cast; rfl, b1, b2⟩
        · refine ⟨false, congrArg V.bl (decide_eq_false hc), iteF ⟨_, rfl, R, _, 3, 3, rfl, rfl, hR2, rfl, _, rfl, .inl ⟨_, rfl, _, rfl, _, _, rfl, rfl, (by show (0 : Int) < m; omega), ?_⟩⟩⟩
          show Q (.int (c % m)) _
          rw [e3]
          exact k n _ e4 (e2.trans Ek.upd) ⟨i + 1, g', 0, by rw [upd_same]; push_cast; rfl, b1, b2⟩
end
end Kb

set_option Elab.async false
set_option linter.all false
set_option maxRecDepth 100000
set_option maxHeartbeats 8000000
/-! _law_pick, _law_table. -/
namespace Kb
open PySem PySem.Spec PyProof.Rows L2 Evl
open Ka (Nm Res Mk Tr)
section
variable {P : Program} {w : World} {K : PySem.W.Frag} {mg : Str → Option Value} {base : Heap} {a : Ad}
def spPick (K : PySem.W.Frag) : Sp := fun vs H Q _ => ∃ (R sc nl : Addr) (xs : List V), vs = [.ref R, .ref nl] ∧ H nl = some (.lst xs) ∧ nl ≠ R ∧ 1 ≤ xs.length ∧ xs.length ≤ 100 ∧ RowAt H R sc ∧ ScAt K H R sc ∧ ∀ v H', v ∈ xs → Ek R H H' → RowAt H' R sc → Q v H'
theorem ok_pick (T : Tx K mg a) : C8.Cal P w K mg base 2 "_law_pick" (spPick K) [] := by
  refine cal_of T.dPick scPick (fun vs H Q E h => ?_) (fun f cdv A outer s H vs Q E hr h => ?_)
  · obtain ⟨_, _, _, _, rfl, _⟩ := h; rfl
  · obtain ⟨R, sc, nl, xs, rfl, hn, nR, l1, l2, hR, hS, k⟩ := h
    refine ⟨_, pss_one (ps_ret (pe_ix ix_list (pv 1) (C8.pe_c (ok_taken T) hr (by decide) (by rfl) (pa_cons (pv 0) (pa_cons (pe_callB call_len_seq (by rfl) T.b_len PySem.boot_len (pa_cons (pv 1) pa_nil)) pa_nil))) (fun _ _ => rfl))), ?_⟩
    refine ⟨_, rfl, _, rfl, _, rfl, nl, _, rfl, .inl (SqL.of hn), R, sc, _, rfl, by omega, by omega, hR, hS, fun m H1 hm e1 hR1 => ?_⟩
    have hlt : m < xs.length := by omega
    exact ⟨nl, _, _, _, rfl, rfl, SqL.of (e1 _ _ nR hn), atI_nat (List.getElem?_eq_getElem hlt), k _ _ (List.getElem_mem hlt) e1 hR1⟩
/-- a control's four actions -/
def ctl (x0 x1 x2 x3 : Ka.Act) : Res → Ka.Act
  | .yes => x0 | .no => x1 | .skip => x2 | .gone => x3
theorem acts_ctl (x0 x1 x2 x3 : Ka.Act) : acts (ctl x0 x1 x2 x3) = [actV x0, actV x1, actV x2, actV x3] := rfl
def spTable (K : PySem.W.Frag) : Sp := fun vs H Q _ => ∃ (R sc : Addr) (b : Bool), vs = [.ref R, .bl b] ∧ RowAt H R sc ∧ ScAt K H R sc ∧ ∀ (q : Addr) (c : Res → Ka.Act) H', Ek R H H' → RowAt H' R sc → H' q = some (.tup (acts c)) → (∀ r, ActOk (c r)) → H q = none → Q (.ref q) H'
def actL : List Ka.Act := [.ok, .bad, .die, .done, .ign, .reset, .jump 1, .jump 2, .jump 9]
theorem actL_ok : ∀ x ∈ actL, ActOk x := by
  intro x hx
  simp only [actL, List.mem_cons, List.not_mem_nil, or_false] at hx
  rcases hx with rfl | rfl | rfl | rfl | rfl | rfl | rfl | rfl | rfl <;> first | exact trivial | exact ⟨by decide, by decide⟩
theorem Ek.none {L p : Addr} {H H' : Hp} (e : Ek L H H') (n : p ≠ L) (h : H' p = none) : H p = none := by
  cases h1 : H p with
  | none => rfl
  | some o => rw [e p o n h1] at h; cases h
set_option maxHeartbeats 16000000 in
theorem ok_table (T : Tx K mg a) : C8.Cal P w K mg base 2 "_law_table" (spTable K) [] := by
  refine cal_of T.dTable scTable (fun vs H Q E h => ?_) (fun f cdv A outer s H vs Q E hr h => ?_)
  · obtain ⟨_, _, _, rfl, _⟩ := h; rfl
  · obtain ⟨R, sc, b, rfl, hR, hS, k⟩ := h
    have nd := scTable.nd
    have t4 : ∀ {X : Cx} {e1 e2 e3 e4 : Expr} {t1 t2 t3 t4 : TE} {pos : Pos} {n : Nat}, True := trivial
    refine ⟨_, pss_cons (ps_set (i := 2) nd rfl (Or.inl rfl) (pe_lst (pa_cons (pe_tup (pa_cons pe_str (pa_cons pe_str (pa_cons pe_str (pa_cons pe_str pa_nil))))) (pa_cons (pe_tup (pa_cons pe_str (pa_cons pe_str (pa_cons pe_str (pa_cons pe_str pa_nil))))) (pa_cons (pe_tup (pa_cons pe_str (pa_cons pe_str (pa_cons pe_str (pa_cons pe_str pa_nil))))) pa_nil)))))
      (pss_cons (ps_expr (pe_bm PySem.F.plainAttrs_list PySem.F.slot_list_append PySem.F.type_list_append mt_append (pv 2) (pa_cons (pe_tup (pa_cons pe_str (pa_cons pe_str (pa_cons pe_str (pa_cons pe_str pa_nil))))) pa_nil)))
      (pss_cons (ps_if (PW.pt (pw_or (pt_val (pv 1)) (pw_or1 (pt_cmpR op_eq (C8.pe_c (ok_taken T) hr (by decide) (by rfl) (pa_cons (pv 0) (pa_cons pe_int pa_nil))) pe_int (nomark _)))))
        (pss_one (ps_ret (pe_ix ix_list (pv 2) (C8.pe_c (ok_taken T) hr (by decide) (by rfl) (pa_cons (pv 0) (pa_cons pe_int pa_nil))) (fun _ _ => rfl)))) pss_nil)
      (pss_cons (ps_set (i := 3) nd rfl (Or.inr rfl) (pe_lst (pa_cons pe_str (pa_cons pe_str (pa_cons pe_str (pa_cons pe_str (pa_cons pe_str (pa_cons pe_str (pa_cons pe_int (pa_cons pe_int (pa_cons pe_int pa_nil)))))))))))
      (pss_one (ps_ret (pe_tupleOf (by rfl) T.b_tuple (pe_lc (own := [("_law_k", 4)]) (g := gName 4) (tt := tYes) (te := tOp (rIxL K) (tVar 3) (tCall (spTaken K) [] C8.E0 (tCons (tVar 0) (tCons (tC (.int 9)) tNil)))) rfl nd (pi_range1 (by rfl) T.b_range (pa_cons pe_int pa_nil)) (blkOk_by (N := ["_law_row", "_law_plain_here", "_law_words", "_law_acts", "_law_k"]) (sc := C8.fnScope sTable) (by decide +kernel))
        (fun _ _ _ _ _ => pg_name (i := 4) nd rfl (Or.inl rfl)) (fun _ _ _ _ _ => pts_nil) (fun _ _ _ _ _ => pe_ix ix_list (pv 3) (C8.pe_c (ok_taken T) hr (by decide) (by rfl) (pa_cons (pv 0) (pa_cons pe_int pa_nil))) (fun _ _ => rfl))))))))), ?_⟩
    obtain ⟨i0, g0', l0, hRl, _⟩ := id hR
    refine ⟨by show 4 ≤ sizeLine; decide, fun p0 h0 => ⟨by show 4 ≤ sizeLine; decide, fun p1 h1 => ⟨by show 4 ≤ sizeLine; decide, fun p2 h2 => ⟨by show 3 ≤ sizeLine; decide, fun W hW => ?_⟩⟩⟩⟩
    have e1 := (((Ex.new (o := .tup [.str "ok", .str "bad", .str "ignore", .str "bad"]) h0).trans (Ex.new (o := .tup [.str "ok", .str "die", .str "ignore", .str "die"]) h1)).trans (Ex.new (o := .tup [.str "done", .str "ignore", .str "ignore", .str "ignore"]) h2)).trans (Ex.new (o := .lst [.ref p0, .ref p1, .ref p2]) hW)
    have g2 := Ex.new (o := .lst [.ref p0, .ref p1, .ref p2]) hW _ _ (upd_same (a := p2) (o := .tup [.str "done", .str "ignore", .str "ignore", .str "ignore"]))
    have g1 := Ex.new (o := .lst [.ref p0, .ref p1, .ref p2]) hW _ _ (Ex.new (o := .tup [.str "done", .str "ignore", .str "ignore", .str "ignore"]) h2 _ _ (upd_same (a := p1) (o := .tup [.str "ok", .str "die", .str "ignore", .str "die"])))
    have g0 := Ex.new (o := .lst [.ref p0, .ref p1, .ref p2]) hW _ _ (Ex.new (o := .tup [.str "done", .str "ignore", .str "ignore", .str "ignore"]) h2 _ _ (Ex.new (o := .tup [.str "ok", .str "die", .str "ignore", .str "die"]) h1 _ _ (upd_same (a := p0) (o := .tup [.str "ok", .str "bad", .str "ignore", .str "bad"]))))
    have hW1 : (upd (upd (upd (upd H p0 (.tup [.str "ok", .str "bad", .str "ignore", .str "bad"])) p1 (.tup [.str "ok", .str "die", .str "ignore", .str "die"])) p2 (.tup [.str "done", .str "ignore", .str "ignore", .str "ignore"])) W (.lst [.ref p0, .ref p1, .ref p2])) W = some (.lst [.ref p0, .ref p1, .ref p2]) := upd_same
    have hW0 : H W = none := fresh_back (((Ex.new h0).trans (Ex.new h1)).trans (Ex.new h2)) hW
    generalize upd (upd (upd (upd H p0 (.tup [.str "ok", .str "bad", .str "ignore", .str "bad"])) p1 (.tup [.str "ok", .str "die", .str "ignore", .str "die"])) p2 (.tup [.str "done", .str "ignore", .str "ignore", .str "ignore"])) W (.lst [.ref p0, .ref p1, .ref p2]) = H1 at e1 g0 g1 g2 hW1 ⊢
    refine ⟨_, rfl, .inl ⟨rfl, _, SqL.of hW1⟩, by show 4 ≤ sizeLine; decide, fun p3 h3 => ⟨W, _, _, rfl, rfl, Ex.new h3 _ _ hW1, by show 3 < sizeLine; decide, ?_⟩⟩
    have e2 : Ex H (upd (upd H1 p3 (.tup [.str "ok", .str "ignore", .str "ignore", .str "ignore"])) W (.lst ([.ref p0, .ref p1, .ref p2] ++ [.ref p3]))) := (e1.trans (Ex.new h3)).mut hW0
    have nl : NL H1 (upd (upd H1 p3 (.tup [.str "ok", .str "ignore", .str "ignore", .str "ignore"])) W (.lst ([.ref p0, .ref p1, .ref p2] ++ [.ref p3]))) := (NL.of (Ex.new h3)).put (Ex.new h3 _ _ hW1)
    have hW2 : (upd (upd H1 p3 (.tup [.str "ok", .str "ignore", .str "ignore", .str "ignore"])) W (.lst ([.ref p0, .ref p1, .ref p2] ++ [.ref p3]))) W = some (.lst [.ref p0, .ref p1, .ref p2, .ref p3]) := upd_same
    have g3 : (upd (upd H1 p3 (.tup [.str "ok", .str "ignore", .str "ignore", .str "ignore"])) W (.lst ([.ref p0, .ref p1, .ref p2] ++ [.ref p3]))) p3 = some (.tup [.str "ok", .str "ignore", .str "ignore", .str "ignore"]) := by
      have n3 : p3 ≠ W := fun z => by rw [z, hW1] at h3; cases h3
      rw [upd_ne n3]; exact upd_same
    have g0 := nl _ _ g0 rfl
    have g1 := nl _ _ g1 rfl
    have g2 := nl _ _ g2 rfl
    have w1 : H p1 = none := fresh_back (Ex.new h0) h1
    have w2 : H p2 = none := fresh_back ((Ex.new h0).trans (Ex.new h1)) h2
    have w3 : H p3 = none := fresh_back e1 h3
    clear nl e1 hW1
    generalize upd (upd H1 p3 (.tup [.str "ok", .str "ignore", .str "ignore", .str "ignore"])) W (.lst ([.ref p0, .ref p1, .ref p2] ++ [.ref p3])) = H2 at e2 hW2 g0 g1 g2 g3 ⊢
    have hR2' := hR.ex e2
    have hS2 := hS.ek (Ek.of e2)
    have hRW : W ≠ R := fun z => by rw [z, hRl] at hW0; cases hW0
    have fin1 : ∀ H3 (n : Nat), n < 4 → Ek R H2 H3 → ∃ q c, ([.ref p0, .ref p1, .ref p2, .ref p3] : List V)[n]? = some (.ref q) ∧ H3 q = some (.tup (acts c)) ∧ (∀ r, ActOk (c r)) ∧ H q = none := by
      intro H3 n hn e3
      have ne : ∀ q xs, H2 q = some (.tup xs) → q ≠ R := fun q xs h => ne_of h (e2 _ _ hRl) (by intro z; cases z)
      match n, hn with
      | 0, _ => exact ⟨p0, ctl .ok .bad .ign .bad, rfl, e3 _ _ (ne _ _ g0) g0, (fun r => by cases r <;> trivial), h0⟩
      | 1, _ => exact ⟨p1, ctl .ok .die .ign .die, rfl, e3 _ _ (ne _ _ g1) g1, (fun r => by cases r <;> trivial), w1⟩
      | 2, _ => exact ⟨p2, ctl .done .ign .ign .ign, rfl, e3 _ _ (ne _ _ g2) g2, (fun r => by cases r <;> trivial), w2⟩
      | 3, _ => exact ⟨p3, ctl .ok .ign .ign .ign, rfl, e3 _ _ (ne _ _ g3) g3, (fun r => by cases r <;> trivial), w3⟩
    have drawn : ∀ H3, Ek R H2 H3 → ∀ (n : Nat) H4, ((n : Nat) : Int) < 4 → Ek R H3 H4 → RowAt H4 R sc → rIxL K (.ref W) (.int (n : Nat)) H4 Q := by
      intro H3 e3 n H4 hn e4 hR4
      obtain ⟨q, c, f1, f2, f3, f4⟩ := fin1 H4 n (by omega) (e3.trans e4)
      exact ⟨W, _, _, _, rfl, rfl, SqL.of ((e3.trans e4) _ _ hRW hW2), atI_nat f1, k q c H4 (((Ek.of e2).trans e3).trans e4) hR4 f2 f3 f4⟩
    cases b with
    | true => exact ⟨_, rfl, true, rfl, iteT (iteT ⟨_, rfl, _, rfl, R, sc, 4, rfl, by decide, by decide, hR2', hS2, fun n H4 hn e4 hR4 => drawn H2 (Ek.refl _) n H4 hn e4 hR4⟩)⟩
    | false =>
      refine ⟨_, rfl, false, rfl, iteF ⟨_, rfl, R, sc, 2, rfl, by decide, by decide, hR2', hS2, fun n0 H3 hn0 e3 hR3 => ⟨rfl, ?_⟩⟩⟩
      cases hz : decide (V.int (n0 : Nat) = .int 0) with
      | true =>
        refine ⟨true, rfl, iteT ?_⟩
        exact ⟨_, rfl, _, rfl, R, sc, 4, rfl, by decide, by decide, hR3, hS2.ek e3, fun n H4 hn e4 hR4 => drawn H3 e3 n H4 hn e4 hR4⟩
      | false =>
        refine ⟨false, rfl, iteF ?_⟩
        refine ⟨by show 9 ≤ sizeLine; decide, fun A hA => ?_⟩
        have eA : Ex H3 (upd H3 A (.lst [.str "ok", .str "bad", .str "die", .str "done", .str "ignore", .str "reset", .int 1, .int 2, .int 9])) := Ex.new hA
        have hA4 : (upd H3 A (.lst [.str "ok", .str "bad", .str "die", .str "done", .str "ignore", .str "reset", .int 1, .int 2, .int 9])) A = some (.lst [.str "ok", .str "bad", .str "die", .str "done", .str "ignore", .str "reset", .int 1, .int 2, .int 9]) := upd_same
        have hR4 := hR3.ex eA
        have nAR := hR3.ne hA
        have hS4 := (hS2.ek e3).ek (Ek.of eA)
        generalize upd H3 A (.lst [.str "ok", .str "bad", .str "die", .str "done", .str "ignore", .str "reset", .int 1, .int 2, .int 9]) = H4 at eA hA4 hR4 hS4 ⊢
        refine ⟨4, rfl, by decide, by decide, fun D hD => ?_⟩
        have nDR := hR4.ne hD
        refine lc_it (n := 4) walk_range (fun i H' => Ek R H4 H' ∧ RowAt H' R sc ∧ ∃ xs : List Ka.Act, H' D = some (.lst (xs.map actV)) ∧ xs.length = i ∧ ∀ x ∈ xs, ActOk x) ⟨(Ek.refl _).mut hD, hR4.ex (Ex.new hD), [], upd_same, rfl, fun x hx => (by cases hx)⟩ (fun _ _ _ _ => trivial) ?_ ?_
        · rintro i x _ H5 hi ⟨e5, hR5, xs, hD5, lxs, oxs⟩ ⟨rfl, rfl⟩
          refine ⟨rfl, _, rfl, _, rfl, R, sc, 9, rfl, by decide, by decide, hR5, hS4.ek e5, fun n H6 hn e6 hR6 => ?_⟩
          have hn9 : n < actL.length := by show n < 9; omega
          have hA6 := (e5.trans e6) _ _ nAR hA4
          have hD6 := e6 _ _ nDR hD5
          refine ⟨A, _, _, actV actL[n], rfl, rfl, SqL.of hA6, atI_nat (by
            have : ([.str "ok", .str "bad", .str "die", .str "done", .str "ignore", .str "reset", .int 1, .int 2, .int 9] : List V) = actL.map actV := rfl
            rw [this, List.getElem?_map, List.getElem?_eq_getElem hn9]; rfl), _, hD6, by rw [List.length_map, lxs]; exact sz_lt (by have : i < 4 := hi; omega), (e5.trans e6).mut hD, hR6.mut nDR.symm, xs ++ [actL[n]], by rw [upd_same, List.map_append]; rfl, by rw [List.length_append, lxs]; rfl, ?_⟩
          intro x hx
          rcases List.mem_append.mp hx with hx | hx
          · exact oxs x hx
          · rw [List.mem_singleton.mp hx]; exact actL_ok _ (List.getElem_mem hn9)
        · rintro H5 ⟨e5, hR5, xs, hD5, lxs, oxs⟩
          refine .inl ⟨D, _, rfl, SqL.of hD5, fun z hz => ?_⟩
          obtain ⟨x0, x1, x2, x3, rfl⟩ : ∃ x0 x1 x2 x3, xs = [x0, x1, x2, x3] := by
            match xs, lxs with
            | [x0, x1, x2, x3], _ => exact ⟨x0, x1, x2, x3, rfl⟩
          refine k z (ctl x0 x1 x2 x3) _ ((((Ek.of e2).trans e3).trans (Ek.of eA)).trans (e5.trans (Ek.of (Ex.new hz)))) (hR5.ex (Ex.new hz)) upd_same ?_ (Ek.none ((((Ek.of e2).trans e3).trans (Ek.of eA)).trans e5) (hR5.ne hz) hz)
          intro r
          cases r <;> exact oxs _ (by simp [ctl])
end
end Kb

set_option Elab.async false
set_option linter.all false
set_option maxRecDepth 100000
set_option maxHeartbeats 8000000
/-! _law_rules, _law_plain. -/
namespace Kb
open PySem PySem.Spec PyProof.Rows L2 Evl
open Ka (Nm Res Mk Tr)
/-- a plain tree's entries -/
def PEnts (G : Hp) : Tr → List V → Prop
  | .nil, xs => xs = []
  | .rule n c r, xs => ∃ tu q ys, xs = .ref tu :: ys ∧ G tu = some (.tup [.str (nmS n), .ref q]) ∧ G q = some (.tup (acts c)) ∧ (∀ r, ActOk (c r)) ∧ PEnts G r ys
  | .stk i r, xs => ∃ l zs ys, xs = .ref l :: ys ∧ G l = some (.lst zs) ∧ PEnts G i zs ∧ PEnts G r ys
theorem PEnts.mono {G G' : Hp} (e : Ex G G') : ∀ {t : Tr} {xs : List V}, PEnts G t xs → PEnts G' t xs
  | .nil, _, h => h
  | .rule n c r, _, ⟨tu, q, ys, e1, h1, h2, h3, h4⟩ => ⟨tu, q, ys, e1, e _ _ h1, e _ _ h2, h3, PEnts.mono e h4⟩
  | .stk i r, _, ⟨l, zs, ys, e1, h1, h2, h3⟩ => ⟨l, zs, ys, e1, e _ _ h1, PEnts.mono e h2, PEnts.mono e h3⟩
theorem PEnts.app {G : Hp} : ∀ {t u : Tr} {xs ys : List V}, PEnts G t xs → PEnts G u ys → PEnts G (t.app u) (xs ++ ys)
  | .nil, u, xs, ys, h, k => by
    have e : xs = [] := h
    rw [e]; exact k
  | .rule n c r, _, _, _, ⟨tu, q, zs, e1, h1, h2, h3, h4⟩, k => ⟨tu, q, _, by rw [e1]; rfl, h1, h2, h3, PEnts.app h4 k⟩
  | .stk i r, _, _, _, ⟨l, zs, ws, e1, h1, h2, h3⟩, k => ⟨l, zs, _, by rw [e1]; rfl, h1, h2, PEnts.app h3 k⟩
theorem PEnts.len {G : Hp} : ∀ {t : Tr} {xs : List V}, PEnts G t xs → xs.length = t.len
  | .nil, _, h => by
    have e : _ = [] := h
    rw [e]; rfl
  | .rule n c r, _, ⟨tu, q, ys, e1, h1, h2, h3, h4⟩ => by rw [e1, List.length_cons, PEnts.len h4]; rfl
  | .stk i r, _, ⟨l, zs, ys, e1, h1, h2, h3⟩ => by rw [e1, List.length_cons, PEnts.len h3]; rfl
theorem PEnts.uncons {G : Hp} {v : Tr} {x : V} {ys : List V} (h : PEnts G v (x :: ys)) :
    (∃ n c r tu q, v = .rule n c r ∧ x = .ref tu ∧ G tu = some (.tup [.str (nmS n), .ref q]) ∧ G q = some (.tup (acts c)) ∧ (∀ r, ActOk (c r)) ∧ PEnts G r ys) ∨
    ∃ i r l zs, v = .stk i r ∧ x = .ref l ∧ G l = some (.lst zs) ∧ PEnts G i zs ∧ PEnts G r ys := by
  cases v with
  | nil => cases h
  | rule n c r =>
    obtain ⟨tu, q, zs, e, h1, h2, h3, h4⟩ := h
    cases e
    exact .inl ⟨n, c, r, tu, q, rfl, rfl, h1, h2, h3, h4⟩
  | stk i r =>
    obtain ⟨l, zs, ws, e, h1, h2, h3⟩ := h
    cases e
    exact .inr ⟨i, r, l, zs, rfl, rfl, h1, h2, h3⟩
theorem PEnts.nil_of {G : Hp} {v : Tr} (h : PEnts G v []) : v = .nil := by
  cases v with
  | nil => rfl
  | rule n c r => obtain ⟨_, _, _, e, _⟩ := h; cases e
  | stk i r => obtain ⟨_, _, _, e, _⟩ := h; cases e
section
variable {P : Program} {w : World} {K : PySem.W.Frag} {mg : Str → Option Value} {base : Heap} {a : Ad}
def spRules (d : Nat) : Sp := fun vs H Q _ => ∃ (p : Addr) (xs : List V) (t : Tr), vs = [.ref p] ∧ H p = some (.lst xs) ∧ PEnts H t xs ∧ t.depth ≤ d ∧ t.count ≤ 1000 ∧ ∀ q ys H', Ex H H' → H' q = some (.lst ys) → ys.length = t.count → Q (.ref q) H'
theorem ok_rules (T : Tx K mg a) : ∀ d : Nat, C8.Cal P w K mg base (1 + d) "_law_rules" (spRules d) [] := by
  intro d
  induction d with
  | zero =>
    refine cal_of T.dRules scRules (fun vs H Q E h => ?_) (fun f cdv A outer s H vs Q E hr h => ?_)
    · obtain ⟨_, _, _, rfl, _⟩ := h; rfl
    · obtain ⟨_, _, t, _, _, _, h, _⟩ := h
      have := Ka.Tr.one_le_depth t
      omega
  | succ d ih =>
    refine cal_of (k := 1 + d) T.dRules scRules (fun vs H Q E h => ?_) (fun f cdv A outer s H vs Q E hr h => ?_)
    · obtain ⟨_, _, _, rfl, _⟩ := h; rfl
    · obtain ⟨p, xs, t, rfl, hp, ht, hd, hc, k⟩ := h
      have nd := scRules.nd
      refine ⟨_, pss_cons (ps_set (i := 1) nd rfl (Or.inl rfl) (pe_lst pa_nil))
        (pss_cons (ps_for PassesOwn.never rfl (pi_list (pv 0)) (pg_name (i := 2) nd rfl (Or.inl rfl))
          (pss_one (ps_set (i := 1) nd rfl (Or.inl rfl) (pe_op op_cat (pv 1) (pe_ifExp (pt_val (pe_callB call_isi (by rfl) T.b_isinstance PyProof.Rows.boot_isinstance (pa_cons (pv 2) (pa_cons (pe_bltn (v := .ty "list") (by rfl) T.b_list PyProof.Rows.boot_list rfl) pa_nil)))) (C8.pe_c ih hr (by omega) (by rfl) (pa_cons (pv 2) pa_nil)) (pe_lst (pa_cons (pv 2) pa_nil)))))))
        (pss_one (ps_ret (pv 1)))), ?_⟩
      refine ⟨Nat.zero_le _, fun F0 hF0 => ⟨_, rfl, p, rfl, ⟨_, SqL.of (Ex.new hF0 _ _ hp)⟩, ?_⟩⟩
      refine for_it walk_list (fun i σ H' => ∃ v F acc y2, σ = [some (.ref p), some (.ref F), y2] ∧ Ex H H' ∧ H' F = some (.lst acc) ∧ PEnts H v (xs.drop i) ∧ acc.length + v.count = t.count ∧ v.depth ≤ t.depth)
        ⟨t, F0, [], none, rfl, Ex.new hF0, upd_same, ht, Nat.zero_add _, Nat.le_refl _⟩ (fun i σ H' _ ⟨_, _, _, _, _, e, _⟩ => SqL.of (e _ _ hp)) ?_ ?_
      · rintro i x σ _ H1 hi ⟨v, F, acc, y2, rfl, e1, hF, hv, hcv, hdv⟩ ⟨rfl, hx⟩
        rw [List.drop_eq_getElem_cons hi] at hv
        obtain rfl : x = xs[i] := by rw [List.getElem?_eq_getElem hi] at hx; exact (Option.some.inj hx).symm
        rcases hv.uncons with ⟨n, c, r, tu, q, rfl, ex, g1, g2, g3, g4⟩ | ⟨ii, r, l, zs, rfl, ex, g1, g2, g3⟩
        · rw [ex]
          simp only [Tr.count, Tr.depth] at hcv hdv
          refine ⟨_, rfl, _, rfl, _, _, _, _, false, rfl, .ty "list", .base (.tup (e1 _ _ g1)), kit_ty (by decide +kernel), false, rfl, iteF ⟨_, rfl, by show 1 ≤ sizeLine; decide, fun z hz => ⟨F, z, acc, [.ref tu], rfl, rfl, Ex.new hz _ _ hF, upd_same, ?_, fun y hy => ?_⟩⟩⟩
          · exact sz_of (by show acc.length + 1 ≤ 100000; omega)
          · exact ⟨r, y, _, _, rfl, (e1.trans (Ex.new hz)).trans (Ex.new hy), upd_same, g4, by rw [List.length_append]; show acc.length + 1 + r.count = _; omega, hdv⟩
        · rw [ex]
          simp only [Tr.count, Tr.depth] at hcv hdv
          refine ⟨_, rfl, _, rfl, _, _, _, _, true, rfl, .ty "list", .base (.lst (e1 _ _ g1)), kit_ty (by decide +kernel), true, rfl, iteT ⟨_, rfl, l, zs, ii, rfl, e1 _ _ g1, g2.mono e1, by omega, by omega, fun z ys H2 e2 hz ly => ⟨F, z, acc, ys, rfl, rfl, e2 _ _ hF, hz, ?_, fun y hy => ?_⟩⟩⟩
          · exact sz_of (by omega)
          · exact ⟨r, y, _, _, rfl, (e1.trans e2).trans (Ex.new hy), upd_same, g3, by rw [List.length_append]; omega, by omega⟩
      · rintro σ H1 ⟨v, F, acc, y2, rfl, e1, hF, hv, hcv, hdv⟩
        rw [List.drop_length] at hv
        obtain rfl := hv.nil_of
        exact ⟨_, rfl, k F acc _ e1 hF (by simpa [Tr.count] using hcv)⟩
end
end Kb

set_option Elab.async false
set_option linter.all false
set_option maxRecDepth 100000
set_option maxHeartbeats 8000000
/-! _law_plain. -/
namespace Kb
open PySem PySem.Spec PyProof.Rows L2 Evl
open Ka (Nm Res Mk Tr)
/-- a heap without one object -/
def hid (R : Addr) (H : Hp) : Hp := fun b => if b = R then none else H b
theorem hid_some {R b : Addr} {H : Hp} {o : HO} : hid R H b = some o ↔ b ≠ R ∧ H b = some o := by
  unfold hid
  by_cases e : b = R
  · rw [if_pos e]; simp [e]
  · rw [if_neg e]; simp [e]
theorem hid_ex {R : Addr} {H : Hp} : Ex (hid R H) H := fun b o h => (hid_some.mp h).2
/-- what is new -/
def nw (H H' : Hp) : Hp := fun b => match H b with | none => H' b | some _ => none
theorem nw_some {H H' : Hp} {b : Addr} {o : HO} : nw H H' b = some o ↔ H b = none ∧ H' b = some o := by
  unfold nw
  cases h : H b <;> simp
theorem nw_ex {H H' : Hp} : Ex (nw H H') H' := fun b o h => (nw_some.mp h).2
theorem nw_ek {R sc : Addr} {H H1 H2 : Hp} (hR : RowAt H R sc) (e : Ek R H1 H2) : Ex (nw H H1) (nw H H2) := fun b o h => by
  obtain ⟨h1, h2⟩ := nw_some.mp h
  exact nw_some.mpr ⟨h1, e b o (hR.ne h1) h2⟩
theorem hid_nw {R sc F : Addr} {H H1 H2 : Hp} {o : HO} (hR : RowAt H R sc) (e : Ek R H1 H2) : Ex (hid F (nw H H1)) (hid F (nw H (upd H2 F o))) := fun b u h => by
  obtain ⟨h1, h2⟩ := hid_some.mp h
  obtain ⟨h3, h4⟩ := nw_some.mp h2
  exact hid_some.mpr ⟨h1, nw_some.mpr ⟨h3, by rw [upd_ne h1]; exact e b u (hR.ne h3) h4⟩⟩
theorem hid_nw1 {R sc F : Addr} {H H1 H2 : Hp} (hR : RowAt H R sc) (e : Ek R H1 H2) : Ex (hid F (nw H H1)) (hid F (nw H H2)) := fun b u h => by
  obtain ⟨h1, h2⟩ := hid_some.mp h
  exact hid_some.mpr ⟨h1, nw_ek hR e b u h2⟩
section
variable {X : Cx}
theorem PT.up {e : Expr} {tt : TT} (h : PT X e tt) : PT X e (fun σ H Q => ∃ Q0, tt σ H Q0 ∧ ∀ b H1, Q0 b H1 → Q b H1) := ⟨fun pins s σ H Q I ⟨Q0, h0, k⟩ => thn (h.run pins s σ H Q0 I h0) fun d s' ⟨H', I', q⟩ => ⟨H', I', k d H' q⟩⟩
end
section
variable {P : Program} {w : World} {K : PySem.W.Frag} {mg : Str → Option Value} {base : Heap} {a : Ad}
def nameL : List Nm := [.key, .pin, .card]
def spPlain (K : PySem.W.Frag) (d : Nat) : Sp := fun vs H Q _ => ∃ (R sc nl : Addr) (m : Nat) (b : Bool), vs = [.ref R, .ref nl, .int (m : Nat), .int (d : Nat), .bl b] ∧ 1 ≤ d ∧ m ≤ 5 ∧ RowAt H R sc ∧ ScAt K H R sc ∧ H nl = some (.lst (nms nameL)) ∧ nl ≠ R ∧
  ∀ p t xs H', Ek R H H' → RowAt H' R sc → H p = none → p ≠ R → H' p = some (.lst xs) → PEnts (nw H H') t xs → t.count ≤ m → t.len ≤ 4 → t.depth ≤ d → t.fit → Q (.ref p) H'
set_option maxHeartbeats 32000000 in
theorem ok_plain (T : Tx K mg a) : ∀ d : Nat, C8.Cal P w K mg base (2 + d) "_law_plain" (spPlain K d) [] := by
  intro d
  induction d with
  | zero =>
    refine cal_of T.dPlain scPlain (fun vs H Q E h => ?_) (fun f cdv A outer s H vs Q E hr h => ?_)
    · obtain ⟨_, _, _, _, _, rfl, _⟩ := h; rfl
    · obtain ⟨_, _, _, _, _, _, h, _⟩ := h
      omega
  | succ d ih =>
    refine cal_of (k := 2 + d) T.dPlain scPlain (fun vs H Q E h => ?_) (fun f cdv A outer s H vs Q E hr h => ?_)
    · obtain ⟨_, _, _, _, _, rfl, _⟩ := h; rfl
    · obtain ⟨R, sc, nl, m, b, rfl, _, hm, hR, hS, hn, nnR, k⟩ := h
      have nd := scPlain.nd
      refine ⟨_, pss_cons (ps_par rfl nd (i := 5) (j := 6) rfl rfl (by decide) rfl rfl (pa_cons (pe_lst pa_nil) (pa_cons (pv 2) pa_nil)) (by rfl))
        (pss_cons (ps_for PassesOwn.never rfl (pi_range1 (by rfl) T.b_range (pa_cons (C8.pe_c (ok_taken T) hr (by omega) (by rfl) (pa_cons (pv 0) (pa_cons pe_int pa_nil))) pa_nil)) (pg_name (i := 7) nd rfl (Or.inl rfl))
          (pss_one (ps_if (PT.up (PW.pt (pw_and (pt_cmpR op_gt (pv 3) pe_int (nomark _)) (pw_and (pt_cmpR op_gt (pv 6) pe_int (nomark _)) (pw_and1 (pt_cmpR op_eq (C8.pe_c (ok_taken T) hr (by omega) (by rfl) (pa_cons (pv 0) (pa_cons pe_int pa_nil))) pe_int (nomark _)))))))
            (pss_cons (ps_set (i := 8) nd rfl (Or.inl rfl) (C8.pe_c ih hr (by omega) (by rfl) (pa_cons (pv 0) (pa_cons (pv 1) (pa_cons (pe_callB (call_min2 rfl) (by rfl) T.b_min (by decide +kernel) (pa_cons (pv 6) (pa_cons pe_int pa_nil))) (pa_cons (pe_op op_sub (pv 3) pe_int) (pa_cons (pv 4) pa_nil)))))))
            (pss_cons (ps_expr (pe_bm PySem.F.plainAttrs_list PySem.F.slot_list_append PySem.F.type_list_append mt_append (pv 5) (pa_cons (pv 8) pa_nil)))
            (pss_one (ps_set (i := 6) nd rfl (Or.inl rfl) (pe_op op_sub (pv 6) (pe_callB call_len_seq (by rfl) T.b_len PySem.boot_len (pa_cons (C8.pe_c (ok_rules T d) hr (by omega) (by rfl) (pa_cons (pv 8) pa_nil)) pa_nil)))))))
            (pss_one (ps_if (pt_cmpR op_gt (pv 6) pe_int (nomark _))
              (pss_cons (ps_expr (pe_bm PySem.F.plainAttrs_list PySem.F.slot_list_append PySem.F.type_list_append mt_append (pv 5) (pa_cons (pe_tup (pa_cons (C8.pe_c (ok_pick T) hr (by omega) (by rfl) (pa_cons (pv 0) (pa_cons (pv 1) pa_nil))) (pa_cons (C8.pe_c (ok_table T) hr (by omega) (by rfl) (pa_cons (pv 0) (pa_cons (pv 4) pa_nil))) pa_nil))) pa_nil)))
              (pss_one (ps_set (i := 6) nd rfl (Or.inl rfl) (pe_op op_sub (pv 6) pe_int)))) pss_nil)))))
        (pss_one (ps_ret (pv 5)))), ?_⟩
      refine ⟨Nat.zero_le _, fun F hF => ⟨_, rfl, _, _, rfl, ?_⟩⟩
      have eF : Ex H (upd H F (.lst [])) := Ex.new hF
      have hF1 : (upd H F (.lst [])) F = some (.lst []) := upd_same
      have nFR := hR.ne hF
      have nFn : nl ≠ F := ne_of_none hn hF
      generalize upd H F (.lst []) = H0 at eF hF1 ⊢
      refine ⟨_, rfl, R, sc, 5, rfl, by decide, by decide, hR.ex eF, hS.ek (Ek.of eF), fun n H1 hn5 e1 hR1 => ⟨(n : Int), rfl, by omega, by omega, ?_⟩⟩
      rw [Int.toNat_natCast]
      refine for_it walk_range (fun i σ H' => ∃ t xs y7 y8, ∃ left : Nat, σ = [some (.ref R), some (.ref nl), some (.int (m : Nat)), some (.int ((d + 1 : Nat))), some (.bl b), some (.ref F), some (.int (left : Nat)), y7, y8] ∧ Ek R H H' ∧ RowAt H' R sc ∧ H' F = some (.lst xs) ∧ PEnts (hid F (nw H H')) t xs ∧ t.count + left = m ∧ t.len ≤ i ∧ t.depth ≤ d + 1 ∧ t.fit)
        ⟨.nil, [], none, none, m, rfl, (Ek.of eF).trans e1, hR1, e1 _ _ nFR hF1, rfl, Nat.zero_add _, Nat.le_refl _, by show 1 ≤ d + 1; omega, trivial⟩ (fun _ _ _ _ _ => trivial) ?_ ?_
      · rintro i v σ _ H2 hi ⟨t, xs, y7, y8, left, rfl, e2, hR2, hF2, ht, hcl, hlen, hdep, hfit⟩ ⟨rfl, rfl⟩
        have hS2 := hS.ek e2
        have hn2 := e2 _ _ nnR hn
        have lxs := ht.len
        refine ⟨fun bb H3 => (bb = true → 1 ≤ d ∧ 0 < left) ∧ Ek R H2 H3 ∧ RowAt H3 R sc, ?_, ?_⟩
        · refine ⟨_, rfl, _, _, rfl, rfl, ?_⟩
          by_cases h1 : ((d + 1 : Nat) : Int) > 1
          · refine ⟨true, congrArg V.bl (decide_eq_true h1), iteT ⟨_, rfl, _, _, rfl, rfl, ?_⟩⟩
            by_cases h2 : (left : Int) > 0
            · refine ⟨true, congrArg V.bl (decide_eq_true h2), iteT ⟨_, rfl, R, sc, 4, rfl, by decide, by decide, hR2, hS2, fun n0 H3 _ e3 hR3 => ⟨rfl, decide (V.int (n0 : Nat) = .int 0), rfl, ?_⟩⟩⟩
              exact ⟨fun _ => ⟨by omega, by omega⟩, e3, hR3⟩
            · exact ⟨false, congrArg V.bl (decide_eq_false h2), iteF ⟨fun z => Bool.noConfusion z, Ek.refl _, hR2⟩⟩
          · exact ⟨false, congrArg V.bl (decide_eq_false h1), iteF ⟨fun z => Bool.noConfusion z, Ek.refl _, hR2⟩⟩
        rintro bb H3 ⟨hbb, e3, hR3⟩
        have hF3 := e3 _ _ nFR hF2
        have hS3 := hS2.ek e3
        have hn3 := e3 _ _ nnR hn2
        cases bb with
        | true =>
          obtain ⟨d1, l1⟩ := hbb rfl
          refine iteT ?_
          have em : (if (3 : Int) < (left : Int) then (3 : Int) else (left : Int)) = ((min left 3 : Nat) : Int) := by split <;> omega
          have ed : (((d + 1 : Nat) : Int) - 1) = ((d : Nat) : Int) := by omega
          refine ⟨_, rfl, _, rfl, _, rfl, _, _, rfl, _, rfl, _, _, rfl, rfl, _, rfl, R, sc, nl, min left 3, b, ?_, d1, by omega, hR3, hS3, hn3, nnR, fun p ti zs H4 e4 hR4 hp0 npR hp4 hpe b1 b2 b3 b4 => ?_⟩
          · show [V.ref R, V.ref nl, V.int _, V.int _, V.bl b] = _
            rw [em, ed]
          have hF4 := e4 _ _ nFR hF3
          have npF : p ≠ F := (ne_of_none hF3 hp0).symm
          refine ⟨_, rfl, .inl ⟨rfl, _, SqL.of hF4⟩, _, rfl, F, xs, _, rfl, rfl, hF4, sz_lt (by omega), ?_⟩
          have e24 := e3.trans e4
          have hFn : H F = none := hF
          have e5 : Ek R H (upd H4 F (.lst (xs ++ [.ref p]))) := (e2.trans e24).mut hFn
          have hF5 : (upd H4 F (.lst (xs ++ [.ref p]))) F = some (.lst (xs ++ [.ref p])) := upd_same
          have hR5 := hR4.mut (o := .lst (xs ++ [.ref p])) nFR.symm
          have hp5 : (upd H4 F (.lst (xs ++ [.ref p]))) p = some (.lst zs) := by rw [upd_ne npF]; exact hp4
          have hpe4 : PEnts (hid F (nw H (upd H4 F (.lst (xs ++ [.ref p]))))) ti zs := by
            refine hpe.mono fun bb u hu => ?_
            obtain ⟨u1, u2⟩ := nw_some.mp hu
            have nbF : bb ≠ F := (ne_of_none hF3 u1).symm
            exact hid_some.mpr ⟨nbF, nw_some.mpr ⟨Ek.none (e2.trans e3) (hR3.ne u1) u1, by rw [upd_ne nbF]; exact u2⟩⟩
          have ht5 : PEnts (hid F (nw H (upd H4 F (.lst (xs ++ [.ref p]))))) t xs := ht.mono (hid_nw hR e24)
          generalize upd H4 F (.lst (xs ++ [.ref p])) = H5 at e5 hF5 hR5 hp5 hpe4 ht5 ⊢
          refine ⟨_, rfl, _, rfl, p, zs, ti, rfl, hp5, (hpe4.mono hid_ex).mono nw_ex, b3, by omega, fun q ys H6 e6 hq6 ly => ?_⟩
          refine ⟨q, _, rfl, .inl (SqL.of hq6), _, _, rfl, rfl, ?_⟩
          have el : ((left : Int) - ((ys.length : Nat) : Int)) = ((left - ti.count : Nat) : Int) := by rw [ly]; omega
          have ek6 : Ek R H5 H6 := Ek.of e6
          refine ⟨t.app (.stk ti .nil), xs ++ [.ref p], _, _, left - ti.count, by rw [← el]; rfl, e5.trans ek6, hR5.ex e6, e6 _ _ hF5, ?_, ?_, ?_, ?_, ?_⟩
          · exact PEnts.app (ht5.mono (hid_nw1 hR ek6)) ⟨p, zs, [], rfl, hid_some.mpr ⟨npF, nw_some.mpr ⟨Ek.none (e2.trans e3) npR hp0, e6 _ _ hp5⟩⟩, hpe4.mono (hid_nw1 hR ek6), rfl⟩
          · rw [Ka.Tr.count_app]; simp only [Tr.count]; omega
          · rw [Ka.Tr.len_app]; simp only [Tr.len]; omega
          · rw [Ka.Tr.depth_app]; simp only [Tr.depth]; omega
          · rw [Tr.fit_app]; exact ⟨hfit, by omega, b4, trivial⟩
        | false =>
          refine iteF ⟨_, rfl, _, _, rfl, rfl, ?_⟩
          by_cases hl : (left : Int) > 0
          · refine ⟨true, congrArg V.bl (decide_eq_true hl), iteT ?_⟩
            refine ⟨_, rfl, .inl ⟨rfl, _, SqL.of hF3⟩, _, rfl, _, rfl, R, sc, nl, nms nameL, rfl, hn3, nnR, by decide, by decide, hR3, hS3, fun v H4 hv e4 hR4 => ?_⟩
            obtain ⟨nn, hnn, rfl⟩ : ∃ nn, nn ∈ nameL ∧ v = .str (nmS nn) := by
              obtain ⟨nn, h1, h2⟩ := List.mem_map.mp hv
              exact ⟨nn, h1, h2.symm⟩
            refine ⟨_, rfl, _, rfl, R, sc, b, rfl, hR4, hS3.ek e4, fun q c H5 e5 hR5 hq5 hc5 hq0 => ⟨by show 2 ≤ sizeLine; decide, fun tu htu => ?_⟩⟩
            have e35 := e4.trans e5
            have hF5 := e35 _ _ nFR hF3
            have hF6 := Ex.new (o := .tup [.str (nmS nn), .ref q]) htu _ _ hF5
            refine ⟨F, xs, _, rfl, rfl, hF6, sz_lt (by omega), ?_⟩
            have e26 : Ek R H2 (upd H5 tu (.tup [.str (nmS nn), .ref q])) := (e3.trans e35).trans (Ek.of (Ex.new htu))
            have hR6 := hR5.ex (Ex.new (o := .tup [.str (nmS nn), .ref q]) htu)
            have nqR : q ≠ R := fun z => by obtain ⟨_, _, _, r0, _⟩ := hR5; rw [z, r0] at hq5; cases hq5
            have nqF : q ≠ F := ne_of hq5 hF5 (by intro z; cases z)
            have ntR := hR5.ne htu
            have ntF : tu ≠ F := (ne_of_none hF5 htu).symm
            have el : ((left : Int) - 1) = ((left - 1 : Nat) : Int) := by omega
            refine ⟨_, rfl, _, _, rfl, rfl, ?_⟩
            refine ⟨t.app (.rule nn c .nil), xs ++ [.ref tu], _, _, left - 1, by rw [← el]; rfl, (e2.trans e26).mut hF, hR6.mut nFR.symm, upd_same, ?_, ?_, ?_, ?_, ?_⟩
            · refine PEnts.app (ht.mono (hid_nw hR e26)) ⟨tu, q, [], rfl, hid_some.mpr ⟨ntF, nw_some.mpr ⟨Ek.none ((e2.trans e3).trans e35) ntR htu, by rw [upd_ne ntF]; exact upd_same⟩⟩, hid_some.mpr ⟨nqF, nw_some.mpr ⟨Ek.none ((e2.trans e3).trans e4) nqR hq0, by rw [upd_ne nqF]; exact Ex.new htu _ _ hq5⟩⟩, hc5, rfl⟩
            · rw [Ka.Tr.count_app]; simp only [Tr.count]; omega
            · rw [Ka.Tr.len_app]; simp only [Tr.len]; omega
            · rw [Ka.Tr.depth_app]; simp only [Tr.depth]; omega
            · rw [Tr.fit_app]; exact ⟨hfit, trivial⟩
          · refine ⟨false, congrArg V.bl (decide_eq_false hl), iteF ?_⟩
            exact ⟨t, xs, _, _, left, rfl, e2.trans e3, hR3, hF3, ht.mono (hid_nw1 hR e3), hcl, by omega, hdep, hfit⟩
      · rintro σ H2 ⟨t, xs, y7, y8, left, rfl, e2, hR2, hF2, ht, hcl, hlen, hdep, hfit⟩
        exact ⟨_, rfl, k F t xs H2 e2 hR2 hF nFR hF2 (ht.mono hid_ex) (by omega) (by omega) hdep hfit⟩
end
end Kb

set_option Elab.async false
set_option linter.all false
set_option maxRecDepth 100000
set_option maxHeartbeats 8000000
/-! _law_made. -/
namespace Kb
open PySem PySem.Spec PyProof.Rows L2 Evl
open Ka (Nm Res Mk Tr)
section
variable {P : Program} {w : World} {K : PySem.W.Frag} {mg : Str → Option Value} {base : Heap} {a : Ad}
def spMade (a : Ad) (d : Nat) : Sp := fun vs H Q _ => ∃ (p : Addr) (xs : List V) (t : Tr), vs = [.ref p] ∧ H p = some (.lst xs) ∧ PEnts H t xs ∧ t.depth ≤ d ∧ t.count ≤ 12 ∧ t.len ≤ 12 ∧ t.fit ∧ t.depth ≤ 3 ∧ ∀ q H', Ex H H' → StackAt a H' q t → Q (.ref q) H'
set_option maxHeartbeats 16000000 in
theorem ok_made (T : Tx K mg a) : ∀ d : Nat, C8.Cal P w K mg base (6 + d) "_law_made" (spMade a d) [] := by
  intro d
  induction d with
  | zero =>
    refine cal_of T.dMade scMade (fun vs H Q E h => ?_) (fun f cdv A outer s H vs Q E hr h => ?_)
    · obtain ⟨_, _, _, rfl, _⟩ := h; rfl
    · obtain ⟨_, _, t, _, _, _, h, _⟩ := h
      have := Ka.Tr.one_le_depth t
      omega
  | succ d ih =>
    refine cal_of (k := 6 + d) T.dMade scMade (fun vs H Q E h => ?_) (fun f cdv A outer s H vs Q E hr h => ?_)
    · obtain ⟨_, _, _, rfl, _⟩ := h; rfl
    · obtain ⟨p, xs, t, rfl, hp, ht, hd, b1, b2, b3, b4, k⟩ := h
      have nd := scMade.nd
      have hr5 : Room (4 + 1) (A.deeper (envOfC "_law_made" (C8.fnScope sMade) s.heap.objs.size f cdv)) := hr.mono (by omega)
      refine ⟨_, pss_cons (ps_set (i := 1) nd rfl (Or.inl rfl) (pe_sm0 (ok_stack T) hr (by omega) (by rfl)))
        (pss_cons (ps_for PassesOwn.never rfl (pi_list (pv 0)) (pg_name (i := 2) nd rfl (Or.inl rfl))
          (pss_one (ps_set (i := 1) nd rfl (Or.inl rfl) (pe_op (op_ownAdd (ok_add T) hr5 (by omega) T.stackSelf) (pv 1) (pe_sm1 (ok_stack T) hr (by omega) (by rfl) (pa_cons (pe_ifExp (pt_val (pe_callB call_isi (by rfl) T.b_isinstance PyProof.Rows.boot_isinstance (pa_cons (pv 2) (pa_cons (pe_bltn (v := .ty "list") (by rfl) T.b_list PyProof.Rows.boot_list rfl) pa_nil))))
            (C8.pe_c ih hr (by omega) (by rfl) (pa_cons (pv 2) pa_nil)) (C8.pe_mk (ok_rule_init T) hr (by omega) (by rfl) (pa_cons (pe_ix ix_tup (pv 2) pe_int (fun _ _ => rfl)) (pa_cons (pe_ix ix_tup (pv 2) pe_int (fun _ _ => rfl)) pa_nil)))) pa_nil))))))
        (pss_one (ps_ret (pv 1)))), ?_⟩
      refine fun q0 dq0 hx0 hdx0 _ => ⟨q0, dq0, [], .nil, H, rfl, upd_same, hx0, ((Ex.refl H).mut hdx0).mut hx0, rfl, Nat.zero_le _, Nat.zero_le _, by decide, fun H0 e0 hq0 => ⟨rfl, ?_⟩⟩
      refine ⟨_, rfl, p, rfl, ⟨_, SqL.of (e0 _ _ hp)⟩, ?_⟩
      refine for_it walk_list (fun i σ H' => ∃ u v q y2, σ = [some (.ref p), some (.ref q), y2] ∧ Ex H H' ∧ StackAt a H' q u ∧ PEnts H v (xs.drop i) ∧ t = u.app v)
        ⟨.nil, t, q0, none, rfl, e0, hq0, ht, rfl⟩ (fun i σ H' _ ⟨_, _, _, _, _, e, _⟩ => SqL.of (e _ _ hp)) ?_ ?_
      · rintro i x σ _ H1 hi ⟨u, v, q, y2, rfl, e1, hq, hv, et⟩ ⟨rfl, hx⟩
        rw [List.drop_eq_getElem_cons hi] at hv
        obtain rfl : x = xs[i] := by rw [List.getElem?_eq_getElem hi] at hx; exact (Option.some.inj hx).symm
        -- what comes behind the entry's object
        have fin : ∀ (z : Addr) (en r : Tr) (H2 : Hp), Ex H1 H2 → Ents a H2 en [.ref z] → en.len = 1 → t = u.app (en.app r) → PEnts H r (xs.drop (i + 1)) →
            ∀ y dy, H2 y = none → H2 dy = none → dy ≠ y → spStk a (.ref y :: [.ref z]) (upd (upd H2 dy (.own y)) y (.ins a.cStack dy [])) (fun v H3 => v = .non ∧ ∃ a0 b0 dx fs dx2 fs2, V.ref q = .ref a0 ∧ V.ref y = .ref b0 ∧ H3 a0 = some (.ins a.cStack dx fs) ∧ H3 b0 = some (.ins a.cStack dx2 fs2) ∧
              spAdd a [.ref a0, .ref b0] H3 (fun w H4 => ∃ u' v' q' y2', ([some (.ref p), some (.ref q), some xs[i]].set 1 (some w) : L2.St) = [some (.ref p), some (.ref q'), y2'] ∧ Ex H H4 ∧ StackAt a H4 q' u' ∧ PEnts H v' (xs.drop (i + 1)) ∧ t = u'.app v') C8.E0) C8.E0 := by
          intro z en r H2 e2 hen len1 et2 hr2
          have c1 := congrArg Tr.count et2
          have c2 := congrArg Tr.len et2
          have c3 := congrArg Tr.depth et2
          rw [Ka.Tr.count_app, Ka.Tr.count_app] at c1
          rw [Ka.Tr.len_app, Ka.Tr.len_app] at c2
          rw [Ka.Tr.depth_app, Ka.Tr.depth_app] at c3
          refine fun y dy hy0 hdy0 _ => ⟨y, dy, [.ref z], en, H2, rfl, upd_same, hy0, ((Ex.refl H2).mut hdy0).mut hy0, hen, by omega, by omega, by omega, fun H3 e3 hy => ⟨rfl, ?_⟩⟩
          have hq3 := hq.mono (NL.of (e2.trans e3))
          have hq4 := hq3
          have hy4 := hy
          obtain ⟨dx, pa, st, nm, ys, rs, h1, _⟩ := hq4
          obtain ⟨dx', pa', st', nm', ys', rs', h1', _⟩ := hy4
          refine ⟨q, y, dx, _, dx', _, rfl, rfl, h1, h1', q, y, u, en, rfl, hq3, hy, by rw [Ka.Tr.count_app]; omega, by rw [Ka.Tr.len_app]; omega, by rw [Ka.Tr.depth_app]; omega, fun z2 H4 e4 hz => ?_⟩
          exact ⟨u.app en, r, z2, _, rfl, ((e1.trans e2).trans e3).trans e4, hz, hr2, by rw [et2, Ka.Tr.app_assoc]⟩
        rcases hv.uncons with ⟨n, c, r, tu, qq, rfl, ex, g1, g2, g3, g4⟩ | ⟨ii, r, l, zs, rfl, ex, g1, g2, g3⟩
        · rw [ex] at fin ⊢
          refine ⟨_, rfl, _, rfl, _, _, _, _, false, rfl, .ty "list", .base (.tup (e1 _ _ g1)), kit_ty (by decide +kernel), false, rfl, iteF ?_⟩
          refine ⟨_, rfl, tu, _, _, _, rfl, rfl, SqT.of (e1 _ _ g1), rfl, _, rfl, tu, _, _, _, rfl, rfl, SqT.of (e1 _ _ g1), rfl, ?_⟩
          intro z dz hz hdz hne
          refine ⟨z, dz, n, qq, c, rfl, upd_same, (((Ex.refl H1).mut hdz).mut hz) _ _ (e1 _ _ g2), g3, fun H2 hk hz2 => ⟨rfl, ?_⟩⟩
          have e2 : Ex H1 H2 := fun b o hb => hk b o (ne_of_none hb hz) ((((Ex.refl H1).mut hdz).mut hz) b o hb)
          exact fin z (.rule n c .nil) r H2 e2 ⟨z, [], rfl, ⟨dz, qq, hz2, e2 _ _ (e1 _ _ g2)⟩, g3, rfl⟩ rfl et g4
        · rw [ex] at fin ⊢
          have c1 := congrArg Tr.count et
          have c3 := congrArg Tr.depth et
          have c4 : (u.app (.stk ii r)).fit := et ▸ b3
          rw [Ka.Tr.count_app] at c1
          rw [Ka.Tr.depth_app] at c3
          rw [Tr.fit_app] at c4
          simp only [Tr.count] at c1
          simp only [Tr.depth] at c3
          simp only [Tr.fit] at c4
          refine ⟨_, rfl, _, rfl, _, _, _, _, true, rfl, .ty "list", .base (.lst (e1 _ _ g1)), kit_ty (by decide +kernel), true, rfl, iteT ?_⟩
          exact ⟨_, rfl, l, zs, ii, rfl, e1 _ _ g1, g2.mono e1, by omega, by omega, c4.2.1, c4.2.2.1, by omega, fun z H2 e2 hz => fin z (.stk ii .nil) r H2 e2 ⟨z, [], rfl, hz, rfl⟩ rfl et g3⟩
      · rintro σ H1 ⟨u, v, q, y2, rfl, e1, hq, hv, et⟩
        rw [List.drop_length] at hv
        obtain rfl := hv.nil_of
        rw [Ka.Tr.app_nil] at et
        subst et
        exact ⟨_, rfl, k q _ e1 hq⟩
end
end Kb

set_option Elab.async false
set_option linter.all false
set_option maxRecDepth 100000
set_option maxHeartbeats 8000000
/-! law: the plain parts. -/
namespace Kb
open PySem PySem.Spec PyProof.Rows L2 Evl
open Ka (Nm Res Mk Tr)
/-- the law's groups -/
def stepG (f : Nat → Bool) : List (List Nat) → Nat → List (List Nat)
  | [], i => [[i]]
  | g :: gs, i => if f (g.headD 0) = f i then (g ++ [i]) :: gs else g :: stepG f gs i
def ffL (L : Bool) (k : Nat) : Bool := L || decide (k ≠ 1)
def dueOf (L : Bool) (n : Nat) : List (List Nat) := (List.range n).foldl (stepG (ffL L)) []
theorem dueOf_succ (L : Bool) (n : Nat) : dueOf L (n + 1) = stepG (ffL L) (dueOf L n) n := by
  unfold dueOf
  rw [List.range_succ, List.foldl_append]; rfl
theorem stepA {f : Nat → Bool} {i : Nat} : ∀ {es : List (Addr × List Nat)}, es.filter (fun e => decide (f (e.2.headD 0) = f i)) = [] → stepG f (es.map (·.2)) i = es.map (·.2) ++ [[i]]
  | [], _ => rfl
  | e :: es, h => by
    rw [List.filter_cons] at h
    split at h
    · cases h
    · rename_i hn
      have hn2 : ¬ f (e.2.headD 0) = f i := fun z => hn (decide_eq_true z)
      rw [List.map_cons, stepG, if_neg hn2, stepA h]; rfl
theorem stepB {f : Nat → Bool} {i : Nat} {e0 : Addr × List Nat} {rest : List (Addr × List Nat)} : ∀ {es : List (Addr × List Nat)}, es.filter (fun e => decide (f (e.2.headD 0) = f i)) = e0 :: rest → (es.map (·.1)).Nodup →
    stepG f (es.map (·.2)) i = (es.map (fun e => if e.1 = e0.1 then (e.1, e.2 ++ [i]) else e)).map (·.2)
  | [], h, _ => by cases h
  | e :: es, h, nd => by
    rw [List.map_cons, List.nodup_cons] at nd
    rw [List.filter_cons] at h
    split at h
    · rename_i hn
      injection h with h1 h2
      subst h1
      rw [List.map_cons, stepG, if_pos (of_decide_eq_true hn), List.map_cons, List.map_cons, if_pos rfl]
      congr 1
      rw [List.map_map]
      refine List.map_congr_left fun g hg => ?_
      have : ¬ g.1 = e.1 := fun z => nd.1 (List.mem_map.mpr ⟨g, hg, z⟩)
      show g.2 = (if g.1 = e.1 then _ else g).2
      rw [if_neg this]
    · rename_i hn
      have hn2 : ¬ f (e.2.headD 0) = f i := fun z => hn (decide_eq_true z)
      have he0 : e0 ∈ es := (List.mem_filter.mp (show e0 ∈ es.filter _ by rw [h]; exact List.mem_cons_self)).1
      have hne : ¬ e.1 = e0.1 := fun z => nd.1 (List.mem_map.mpr ⟨e0, he0, z.symm⟩)
      rw [List.map_cons, stepG, if_neg hn2, stepB h nd.2, List.map_cons, List.map_cons, if_neg hne]
theorem Like.symm' {s t : Tr} (h : Ka.Like s t) : Ka.Like t s := fun f => (h f).symm
theorem Like.trans' {s t u : Tr} (h : Ka.Like s t) (k : Ka.Like t u) : Ka.Like s u := fun f => (h f).trans (k f)
/-- the four -/
theorem like_ff {s t u v : Tr} {L : Bool} (hL : L = true ↔ Ka.Like s t) (hu : Ka.Like s u) (hv : Ka.Like s v) : ∀ (g i : Nat) (x y : Tr), ([s, t, u, v] : List Tr)[g]? = some x → ([s, t, u, v] : List Tr)[i]? = some y → (Ka.Like x y ↔ ffL L g = ffL L i) := by
  have rep : ∀ (g : Nat) (x : Tr), ([s, t, u, v] : List Tr)[g]? = some x → Ka.Like x (if g = 1 then t else s) := by
    intro g x hx
    match g with
    | 0 => cases hx; exact fun f => rfl
    | 1 => cases hx; exact fun f => rfl
    | 2 => cases hx; exact Like.symm' hu
    | 3 => cases hx; exact Like.symm' hv
    | g + 4 => simp at hx
  intro g i x y hx hy
  have h1 := rep g x hx
  have h2 := rep i y hy
  have e : Ka.Like x y ↔ Ka.Like (if g = 1 then t else s) (if i = 1 then t else s) := ⟨fun h => Like.trans' (Like.symm' h1) (Like.trans' h h2), fun h => Like.trans' h1 (Like.trans' h (Like.symm' h2))⟩
  rw [e]
  unfold ffL
  by_cases a : g = 1 <;> by_cases b : i = 1
  · simp [a, b]; exact fun f => rfl
  · simp [a, b]; rw [hL]; exact ⟨Like.symm', Like.symm'⟩
  · simp [a, b]; rw [← hL]
  · simp [a, b]; exact fun f => rfl
theorem grp4 {f : Nat → List Bool} {A B : List Bool} (h0 : f 0 = A) (h1 : f 1 = B) (h2 : f 2 = A) (h3 : f 3 = A) : (grp f [0, 1, 2, 3]).map (·.2) = if A = B then [[0, 1, 2, 3]] else [[0, 2, 3], [1]] := by
  by_cases e : A = B
  · subst e; simp [grp, insG, h0, h1, h2, h3]
  · have e2 : ¬ B = A := fun z => e z.symm
    simp [grp, insG, h0, h1, h2, h3, e, e2]
theorem grp3 {f : Nat → List Bool} {A : List Bool} (h0 : f 0 = A) (h2 : f 2 = A) (h3 : f 3 = A) : (grp f [0, 2, 3]).map (·.2) = [[0, 2, 3]] := by
  simp [grp, insG, h0, h2, h3]
theorem firstDiff_at {s t : Tr} : ∀ {l : List Ka.Ans} {al : Ka.Ans} {b : Bool}, Ka.firstDiff s t l = some (al, b) → ∃ j : Nat, l[j]? = some al ∧ Ka.out al.get s ≠ Ka.out al.get t ∧ b = Ka.out al.get s ∧ ∀ (m : Nat) bl, m < j → l[m]? = some bl → Ka.out bl.get s = Ka.out bl.get t
  | [], _, _, h => by cases h
  | a :: l, al, b, h => by
    by_cases e : Ka.out a.get s = Ka.out a.get t
    · simp only [Ka.firstDiff, if_pos e] at h
      obtain ⟨j, h1, h2, h3, h4⟩ := firstDiff_at h
      refine ⟨j + 1, h1, h2, h3, fun m bl hm hb => ?_⟩
      match m with
      | 0 => cases hb; exact e
      | m + 1 => exact h4 m bl (by omega) (by simpa using hb)
    · simp only [Ka.firstDiff, if_neg e] at h
      cases h
      exact ⟨0, rfl, e, rfl, fun m bl hm => absurd hm (Nat.not_lt_zero m)⟩
theorem words4 {s t u v : Tr} (al : Ka.Ans) (hu : Ka.Like s u) (hv : Ka.Like s v) : wordsOf [s, t, u, v] [0, 1, 2, 3] al = [Ka.out al.get s, Ka.out al.get t, Ka.out al.get s, Ka.out al.get s] := by
  show [Ka.out al.get s, Ka.out al.get t, Ka.out al.get u, Ka.out al.get v] = _
  rw [← hu al.get, ← hv al.get]
theorem worst4 (b c : Bool) : worstI [b, c, b, b] = if b = c then 4 else 3 := by cases b <;> cases c <;> decide
theorem left4 {ns : List Nm} {s t u v : Tr} {al : Ka.Ans} (hu : Ka.Like s u) (hv : Ka.Like s v) (h : Ka.out al.get s ≠ Ka.out al.get t) : leftBy ns [s, t, u, v] [0, 1, 2, 3] al (Ka.out al.get s) = [0, 2, 3] := by
  unfold leftBy
  have a1 : decide (Option.map (fun t => Ka.out al.get t) ([s, t, u, v] : List Tr)[0]? = some (Ka.out al.get s)) = true := by simp
  have a2 : decide (Option.map (fun t => Ka.out al.get t) ([s, t, u, v] : List Tr)[1]? = some (Ka.out al.get s)) = false := by simpa using h.symm
  have a3 : decide (Option.map (fun t => Ka.out al.get t) ([s, t, u, v] : List Tr)[2]? = some (Ka.out al.get s)) = true := by simp [hu al.get]
  have a4 : decide (Option.map (fun t => Ka.out al.get t) ([s, t, u, v] : List Tr)[3]? = some (Ka.out al.get s)) = true := by simp [hv al.get]
  simp only [List.filter_cons, List.filter_nil, a1, a2, a3, a4]; rfl
theorem allN4 {s t u v : Tr} (hu : ∀ n, u.has n = true → s.has n = true) (hv : ∀ n, v.has n = true → s.has n = true) : allN [s, t, u, v] = Ka.both s t := List.filter_congr fun n _ => by
  rw [Bool.eq_iff_iff]
  simp only [List.any_cons, List.any_nil, Bool.or_false, Bool.or_eq_true]
  constructor
  · rintro (h | h | h | h)
    · exact .inl h
    · exact .inr h
    · exact .inl (hu n h)
    · exact .inl (hv n h)
  · rintro (h | h)
    · exact .inl h
    · exact .inr (.inl h)
theorem ledOf4 {ns : List Nm} {s t u v : Tr} (hu : Ka.Like s u) (hv : Ka.Like s v) : ledOf ns [s, t, u, v] 0 = Ka.led ns s ∧ ledOf ns [s, t, u, v] 1 = Ka.led ns t ∧ ledOf ns [s, t, u, v] 2 = Ka.led ns s ∧ ledOf ns [s, t, u, v] 3 = Ka.led ns s := by
  refine ⟨rfl, rfl, ?_, ?_⟩
  · show Ka.led ns u = Ka.led ns s
    exact List.map_congr_left fun al _ => (hu al.get).symm
  · show Ka.led ns v = Ka.led ns s
    exact List.map_congr_left fun al _ => (hv al.get).symm
/-- the first parting answers are the best -/
theorem best_is {ns : List Nm} {s t u v : Tr} (hu : Ka.Like s u) (hv : Ka.Like s v) {j j' : Nat} {al al' : Ka.Ans} (h1 : (Ka.answers ns)[j]? = some al) (hne : Ka.out al.get s ≠ Ka.out al.get t) (hb : ∀ (m : Nat) bl, m < j → (Ka.answers ns)[m]? = some bl → Ka.out bl.get s = Ka.out bl.get t)
    (h2 : (Ka.answers ns)[j']? = some al') (hmin : ∀ (m : Nat) bl, (Ka.answers ns)[m]? = some bl → worstI (wordsOf [s, t, u, v] [0, 1, 2, 3] al') ≤ worstI (wordsOf [s, t, u, v] [0, 1, 2, 3] bl))
    (hfst : ∀ (m : Nat) bl, m < j' → (Ka.answers ns)[m]? = some bl → worstI (wordsOf [s, t, u, v] [0, 1, 2, 3] bl) ≠ worstI (wordsOf [s, t, u, v] [0, 1, 2, 3] al')) : al' = al := by
  have w1 : worstI (wordsOf [s, t, u, v] [0, 1, 2, 3] al) = 3 := by rw [words4 al hu hv, worst4, if_neg hne]
  have m1 := hmin j al h1
  rw [w1, words4 al' hu hv, worst4] at m1
  have d' : Ka.out al'.get s ≠ Ka.out al'.get t := fun e => by rw [if_pos e] at m1; omega
  have w2 : worstI (wordsOf [s, t, u, v] [0, 1, 2, 3] al') = 3 := by rw [words4 al' hu hv, worst4, if_neg d']
  rcases Nat.lt_trichotomy j j' with h | h | h
  · exact absurd (w1.trans w2.symm) (hfst j al h h1)
  · subst h; rw [h1] at h2; exact (Option.some.inj h2).symm
  · exact absurd (hb j' al' h h2) d'
theorem natDs_lay : ∀ gs : List (List Nat), PyData.canLayAll0 (gs.map natD) = true
  | [] => rfl
  | g :: gs => by
    rw [List.map_cons]
    simp only [PyData.canLayAll0, natD, PyData.canLay0, natD_lay, natDs_lay gs, Bool.and_true]
theorem natDs_dep : ∀ gs : List (List Nat), PyData.depthAll (gs.map natD) ≤ 1
  | [] => Nat.zero_le _
  | g :: gs => by
    rw [List.map_cons]
    have := natDs_dep gs
    simp only [PyData.depthAll, natD, PyData.depth, natD_dep]
    omega
theorem natDs_shaped (gs : List (List Nat)) : SeqAt.shaped (.list (gs.map natD)) = true := by
  unfold SeqAt.shaped
  rw [Bool.and_eq_true]
  refine ⟨by simp only [PyData.canLay0, natDs_lay], decide_eq_true ?_⟩
  have := natDs_dep gs
  simp only [PyData.depth]; omega
theorem ints_eqv : ∀ ls : List Nat, PyData.eqvAll (ls.map fun (i : Nat) => PyData.int (i : Nat)) (ls.map fun (i : Nat) => PyData.int (i : Nat)) = true
  | [] => rfl
  | i :: ls => by rw [List.map_cons]; simp only [PyData.eqvAll, PyData.eqv, ints_eqv ls, beq_self_eq_true, Bool.and_self]
theorem natD_eqv (ls : List Nat) : PyData.eqv (natD ls) (natD ls) = true := by
  unfold natD; simp only [PyData.eqv, ints_eqv]
theorem natDs_eqvA : ∀ gs : List (List Nat), PyData.eqvAll (gs.map natD) (gs.map natD) = true
  | [] => rfl
  | g :: gs => by rw [List.map_cons]; simp only [PyData.eqvAll, natD_eqv, natDs_eqvA gs, Bool.and_self]
theorem natDs_eqv (gs : List (List Nat)) : PyData.eqv (.list (gs.map natD)) (.list (gs.map natD)) = true := by simp only [PyData.eqv, natDs_eqvA]
theorem resD_lay : ∀ rs : List Res, PyData.canLayAll0 (rs.map fun r => PyData.str (resS r)) = true
  | [] => rfl
  | r :: rs => by
    rw [List.map_cons]
    simp only [PyData.canLayAll0, PyData.canLay0, resD_lay rs, Bool.and_true]
    cases r <;> decide +kernel
theorem resD_dep : ∀ rs : List Res, PyData.depthAll (rs.map fun r => PyData.str (resS r)) = 0
  | [] => rfl
  | r :: rs => by rw [List.map_cons]; simp only [PyData.depthAll, PyData.depth, resD_dep rs]; rfl
theorem resD_shaped (rs : List Res) : SeqAt.shaped (.list (rs.map fun r => PyData.str (resS r))) = true := by
  unfold SeqAt.shaped
  rw [Bool.and_eq_true]
  refine ⟨by simp only [PyData.canLay0, resD_lay], decide_eq_true ?_⟩
  simp only [PyData.depth, resD_dep]; omega
theorem resD_eqvA : ∀ rs : List Res, PyData.eqvAll (rs.map fun r => PyData.str (resS r)) (rs.map fun r => PyData.str (resS r)) = true
  | [] => rfl
  | r :: rs => by rw [List.map_cons]; simp only [PyData.eqvAll, PyData.eqv, resD_eqvA rs, beq_self_eq_true, Bool.and_self]
theorem resD_dp {K : PySem.W.Frag} {H : Hp} : ∀ rs : List Res, DpAll K H (rs.map fun r => V.str (resS r)) (rs.map fun r => PyData.str (resS r))
  | [] => .nil
  | r :: rs => .cons (.str _) (resD_dp rs)
theorem gdp2 {K : PySem.W.Frag} {H : Hp} : ∀ es : List (Addr × List Nat), (∀ e ∈ es, H e.1 = some (.lst (nats e.2))) → DpAll K H (es.map fun e => V.ref e.1) ((es.map (·.2)).map natD)
  | [], _ => .nil
  | e :: es, h => .cons (natD_dp (SqL.of (h e List.mem_cons_self))) (gdp2 es fun e' he => h e' (List.mem_cons_of_mem _ he))
theorem sus_ins {a : Ad} {H : Hp} {x : Addr} {ns : List Nm} {ts : List Tr} {ls : List Nat} {fa : List V} (h : SusAt a H x ns ts ls fa) : ∃ dx fs, H x = some (.ins a.cSuspects dx fs) ∧ fs.lookup ("groups" : Str) = none ∧ fs.lookup ("see" : Str) = none ∧ fs.lookup ("best_answers" : Str) = none ∧ fs.lookup ("fewest_tests" : Str) = none := by
  obtain ⟨dx, N, D, W, L, F, xs, ws, h1, _⟩ := h
  exact ⟨dx, _, h1, rfl, rfl, rfl, rfl⟩
theorem one_row {A : List Bool} : ∀ {Lb : List (Addr × List Bool)}, (Lb.map (·.2)).Nodup → (∀ y, y ∈ Lb.map (·.2) ↔ y = A) → ∃ r, Lb = [(r, A)]
  | [], _, h => by have := (h A).mpr rfl; cases this
  | (r, c) :: l, nd, h => by
    have hc : c = A := (h c).mp List.mem_cons_self
    subst hc
    cases l with
    | nil => exact ⟨r, rfl⟩
    | cons p l =>
      have hp : p.2 = c := (h p.2).mp (List.mem_cons_of_mem _ List.mem_cons_self)
      rw [List.map_cons, List.nodup_cons] at nd
      exact absurd (show c ∈ (p :: l).map (·.2) by rw [← hp]; exact List.mem_cons_self) nd.1
theorem two_rows {A B : List Bool} (ne : A ≠ B) {Lb : List (Addr × List Bool)} (nd : (Lb.map (·.2)).Nodup) (h : ∀ y, y ∈ Lb.map (·.2) ↔ y = A ∨ y = B) : ∃ r1 r2 c1 c2, Lb = [(r1, c1), (r2, c2)] ∧ c1 ≠ c2 := by
  have hl : Lb.length = 2 := by
    have p : (Lb.map (·.2)).Perm [A, B] := (List.perm_ext_iff_of_nodup nd (by simp [ne])).mpr fun y => by rw [h]; simp
    have := p.length_eq
    rwa [List.length_map] at this
  match Lb, hl with
  | [(r1, c1), (r2, c2)], _ => exact ⟨r1, r2, c1, c2, rfl, fun e => by subst e; simp at nd⟩
end Kb

set_option Elab.async false
set_option linter.all false
set_option maxRecDepth 100000
set_option maxHeartbeats 8000000
/-! law. -/
namespace Kb
open PySem PySem.Spec PyProof.Rows L2 Evl
open Ka (Nm Res Mk Tr)
section
variable {P : Program} {w : World} {K : PySem.W.Frag} {mg : Str → Option Value} {base : Heap} {a : Ad}
def spLaw (K : PySem.W.Frag) : Sp := fun vs H Q _ => ∃ (sc : Addr) (ns : List Int), vs = [.ref sc] ∧ SqL K H sc (ns.map V.int) ∧ ∀ H', Q (.bl true) H'
abbrev lawN : List Str := ["_law_script", "_law_row", "_law_plain_here", "_law_other", "_law_stack", "_law_second", "_law_stacks", "_law_suspects", "_law_due", "_law_index", "_law_same", "_law_parted", "_law_best", "_law_names", "_law_group", "_law_name"]
set_option maxHeartbeats 64000000 in
theorem law_fn (T : Tx K mg a) {f : Addr} {fd : FuncData} (F : C8.Fun K "law" "law" sLaw f fd) : FnOk P w K mg base C8.CX0 14 f fd ["_law_script"] (spLaw K) := by
  refine C8.fn0 F scLaw (fun vs H Q E h => ?_) (fun cdv A outer s H vs Q E hr h => ?_)
  · obtain ⟨_, _, rfl, _⟩ := h; rfl
  · obtain ⟨sc, scs, rfl, hsc, k⟩ := h
    have nd := scLaw.nd
    have hu := hr.units
    refine ⟨_, pss_cons (ps_set (i := 1) nd rfl (Or.inl rfl) (pe_lst (pa_cons (pv 0) (pa_cons pe_int (pa_cons pe_int (pa_cons pe_int pa_nil))))))
      (pss_cons (ps_set (i := 2) nd rfl (Or.inl rfl) (C8.pe_c (ok_plain T 2) hr (by decide) (by rfl) (pa_cons (pv 1) (pa_cons (pe_lst (pa_cons pe_str (pa_cons pe_str (pa_cons pe_str pa_nil)))) (pa_cons pe_int (pa_cons pe_int (pa_cons (pe_cmpR op_eq (C8.pe_c (ok_taken T) hr (by decide) (by rfl) (pa_cons (pv 1) (pa_cons pe_int pa_nil))) pe_int (nomark _)) pa_nil)))))))
      (pss_cons (ps_set (i := 3) nd rfl (Or.inl rfl) (C8.pe_c (ok_plain T 2) hr (by decide) (by rfl) (pa_cons (pv 1) (pa_cons (pe_lst (pa_cons pe_str (pa_cons pe_str (pa_cons pe_str pa_nil)))) (pa_cons pe_int (pa_cons pe_int (pa_cons (pe_cmpR op_eq (C8.pe_c (ok_taken T) hr (by decide) (by rfl) (pa_cons (pv 1) (pa_cons pe_int pa_nil))) pe_int (nomark _)) pa_nil)))))))
      (pss_cons (ps_par rfl nd (i := 4) (j := 5) rfl rfl (by decide) rfl rfl (pa_cons (C8.pe_c (ok_made T 2) hr (by decide) (by rfl) (pa_cons (pv 2) pa_nil)) (pa_cons (C8.pe_c (ok_made T 2) hr (by decide) (by rfl) (pa_cons (pv 3) pa_nil)) pa_nil)) (by rfl))
      (pss_cons (ps_set (i := 6) nd rfl (Or.inr rfl) (pe_tup (pa_cons (pv 4) (pa_cons (pv 5) (pa_cons (C8.pe_c (ok_least_stack T) hr (by decide) (by rfl) (pa_cons (pv 4) pa_nil)) (pa_cons (C8.pe_c (ok_made T 3) hr (by decide) (by rfl) (pa_cons (pe_lst (pa_cons (pv 2) pa_nil)) pa_nil)) pa_nil))))))
      (C8.pss_cut (ps_par rfl nd (i := 7) (j := 8) rfl rfl (by decide) rfl rfl (pa_cons (C8.pe_mk (ok_sus_init T) hr (by decide) (by rfl) (pa_cons (pv 6) pa_nil)) (pa_cons (pe_lst pa_nil) pa_nil)) (by rfl))
      (C8.pss_cut (ps_for PassesOwn.never rfl (pi_range1 (by rfl) T.b_range (pa_cons pe_int pa_nil)) (pg_name (i := 9) nd rfl (Or.inr rfl))
        (pss_cons (ps_setLc (i := 10) (own := [("_law_group", 14)]) (g := gName 14) (tt := tTest (tCall (spAlike a) [] C8.E0 (tCons (tOp (rIxT K) (tVar 6) (tOp (rIxL K) (tVar 14) (tC (.int 0)))) (tCons (tOp (rIxT K) (tVar 6) (tVar 9)) tNil)))) (te := tVar 14) rfl nd rfl rfl (sw_true rfl rfl rfl (by decide +kernel)) (pi_list (pv 8)) (blkOk_by (N := lawN) (sc := C8.fnScope sLaw) (by decide +kernel))
            (fun _ _ _ _ _ => pg_name (i := 14) nd rfl (Or.inl rfl)) (fun _ _ _ _ _ => pts_one (pt_val (C8.pe_c (ok_alike T) hr (by decide) (by rfl) (pa_cons (pe_ix ix_tup (pv 6) (pe_ix ix_list (pv 14) pe_int (fun _ _ => rfl)) (fun _ _ => rfl)) (pa_cons (pe_ix ix_tup (pv 6) (pv 9) (fun _ _ => rfl)) pa_nil))))) (fun _ _ _ _ _ => pv 14))
        (pss_one (ps_if (pt_cmpR (op_eqD hu) (pv 10) (pe_lst pa_nil) (nomark _))
          (pss_one (ps_expr (pe_bm PySem.F.plainAttrs_list PySem.F.slot_list_append PySem.F.type_list_append mt_append (pv 8) (pa_cons (pe_lst (pa_cons (pv 9) pa_nil)) pa_nil))))
          (pss_one (ps_expr (pe_bm PySem.F.plainAttrs_list PySem.F.slot_list_append PySem.F.type_list_append mt_append (pe_ix ix_list (pv 10) pe_int (fun _ _ => rfl)) (pa_cons (pv 9) pa_nil))))))))
      (pss_cons (ps_if (PW.pt (pw_or (pt_cmpR (op_neD hu) (C8.pe_mt0 (ok_groups T) hr (by decide) (pv 7)) (pv 8) (nomark _)) (pw_or1 (pt_cmpR (op_neD hu) (pe_pr (ok_remaining T) hr (by decide) (pv 7)) (pe_lst (pa_cons pe_int (pa_cons pe_int (pa_cons pe_int (pa_cons pe_int pa_nil))))) (nomark _))))) pss_never pss_nil)
      (pss_cons (ps_set (i := 11) nd rfl (Or.inr rfl) (C8.pe_c (ok_first T) hr (by decide) (by rfl) (pa_cons (pv 4) (pa_cons (pv 5) pa_nil))))
      (pss_cons (ps_if (pt_cmpR op_isN (pv 11) pe_non (nomark _)) (pss_one (ps_ret (pe_and (pe_cmpR op_eq (C8.pe_mt0 (ok_fewG T (Cal.mono (ok_split1 T) (by decide))) hr (by decide) (pv 7)) pe_int (nomark _)) (pe_one (pe_cmpR (op_eqD hu) (pv 8) (pe_lst (pa_cons (pe_lst (pa_cons pe_int (pa_cons pe_int (pa_cons pe_int (pa_cons pe_int pa_nil))))) pa_nil)) (nomark _)))))) pss_nil)
      (pss_cons (ps_if (PW.pt (pw_or (pt_cmpR (op_neD hu) (pv 8) (pe_lst (pa_cons (pe_lst (pa_cons pe_int (pa_cons pe_int (pa_cons pe_int pa_nil)))) (pa_cons (pe_lst (pa_cons pe_int pa_nil)) pa_nil))) (nomark _)) (pw_or1 (pt_cmpR op_ne (C8.pe_mt0 (ok_fewG T (ok_split2 T)) hr (by decide) (pv 7)) pe_int (nomark _))))) pss_never pss_nil)
      (pss_cons (ps_set (i := 12) nd rfl (Or.inr rfl) (C8.pe_mt0 (ok_best T) hr (by decide) (pv 7)))
      (pss_cons (ps_set (i := 13) nd rfl (Or.inl rfl) (pe_names rfl hu (by rfl) T.b_sorted (by rfl) T.b_set (pe_op op_cat (pe_callTy call_list_of (by rfl) T.b_list (by decide +kernel) (pa_cons (pe_pr (ok_modules T) hr (by decide) (pv 4)) pa_nil)) (pe_callTy call_list_of (by rfl) T.b_list (by decide +kernel) (pa_cons (pe_pr (ok_modules T) hr (by decide) (pv 5)) pa_nil)))))
      (pss_cons (ps_if (pt_cmpR (op_neD hu) (pe_lc (own := [("_law_name", 15)]) (g := gName 15) (tt := tYes) rfl nd (pi_list (pv 13)) (blkOk_by (N := lawN) (sc := C8.fnScope sLaw) (by decide +kernel)) (fun _ _ _ _ _ => pg_name (i := 15) nd rfl (Or.inl rfl)) (fun _ _ _ _ _ => pts_nil) (fun _ _ _ _ _ => pe_dget (u1 hu) (pv 12) (pv 15) (fun _ _ => rfl)))
          (pe_lc (own := [("_law_name", 15)]) (g := gName 15) (tt := tYes) (te := tDGet (tOp (rIxT K) (tVar 11) (tC (.int 0))) (tVar 15)) rfl nd (pi_list (pv 13)) (blkOk_by (N := lawN) (sc := C8.fnScope sLaw) (by decide +kernel)) (fun _ _ _ _ _ => pg_name (i := 15) nd rfl (Or.inl rfl)) (fun _ _ _ _ _ => pts_nil) (fun _ _ _ _ _ => pe_dget (u1 hu) (pe_ix ix_tup (pv 11) pe_int (fun _ _ => rfl)) (pv 15) (fun _ _ => rfl))) (nomark _)) pss_never pss_nil)
      (pss_cons (ps_if (PW.pt (pw_or (pt_cmpR op_ne (C8.pe_mt (ok_see T) hr (by decide) (pv 7) (pa_cons (pv 12) (pa_cons (pe_ix ix_tup (pv 11) pe_int (fun _ _ => rfl)) pa_nil))) pe_int (nomark _)) (pw_or1 (pt_cmpR (op_neD hu) (pe_pr (ok_remaining T) hr (by decide) (pv 7)) (pe_lst (pa_cons pe_int (pa_cons pe_int (pa_cons pe_int pa_nil)))) (nomark _))))) pss_never pss_nil)
      (pss_one (ps_ret (pe_and (pe_cmpR op_eq (C8.pe_mt0 (ok_fewG T (Cal.mono (ok_split1 T) (by decide))) hr (by decide) (pv 7)) pe_int (nomark _)) (pe_and (pe_cmpR (op_eqD hu) (C8.pe_mt0 (ok_groups T) hr (by decide) (pv 7)) (pe_lst (pa_cons (pe_lst (pa_cons pe_int (pa_cons pe_int (pa_cons pe_int pa_nil)))) pa_nil)) (nomark _)) (pe_one (pe_cmpR (op_hist hu) (pe_pr (ok_history T) hr (by decide) (pv 7)) (pe_lst (pa_cons (pe_tup (pa_cons (pv 12) (pa_cons (pe_ix ix_tup (pv 11) pe_int (fun _ _ => rfl)) pa_nil))) pa_nil)) (nomark _))))))))))))))))))))), ?_⟩
    -- the row
    refine ⟨_, rfl, by show 4 ≤ sizeLine; decide, fun R hR0 => ?_⟩
    have eR0 : ∀ o, Ex H (upd H R o) := fun o => Ex.new hR0
    have hR1 : RowAt (upd H R (.lst [.ref sc, .int 0, .int 0, .int 0])) R sc := ⟨0, 0, 0, upd_same, Int.le_refl _, by decide⟩
    have hS1 : ScAt K (upd H R (.lst [.ref sc, .int 0, .int 0, .int 0])) R sc := ScAt.of hsc hR0
    generalize upd H R (.lst [.ref sc, .int 0, .int 0, .int 0]) = H1 at hR1 hS1 ⊢
    -- the first plain
    refine ⟨_, rfl, by show 3 ≤ sizeLine; decide, fun nl hnl => ?_⟩
    have hR2 := hR1.ex (Ex.new (o := .lst (nms nameL)) hnl)
    have hS2 := hS1.ek (Ek.of (Ex.new (o := .lst (nms nameL)) hnl))
    have hn2 : (upd H1 nl (.lst (nms nameL))) nl = some (.lst (nms nameL)) := upd_same
    have nnR := hR1.ne hnl
    refine ⟨_, rfl, R, sc, 2, rfl, by decide, by decide, hR2, hS2, fun n0 H3 _ e3 hR3 => ⟨rfl, R, sc, nl, 5, decide (V.int (n0 : Nat) = .int 0), rfl, by decide, by decide, hR3, hS2.ek e3, e3 _ _ nnR hn2, nnR, fun p1 t1 xs1 H4 e4 hR4 hp10 np1R hp1 hpe1 c11 c12 c13 c14 => ?_⟩⟩
    have hS4 := (hS2.ek e3).ek e4
    clear hn2 hS1 hR1 hR2 hnl nnR e4 hS2 e3
    -- the other
    refine ⟨_, rfl, by show 3 ≤ sizeLine; decide, fun nl2 hnl2 => ?_⟩
    have hR5 := hR4.ex (Ex.new (o := .lst (nms nameL)) hnl2)
    have hS5 := hS4.ek (Ek.of (Ex.new (o := .lst (nms nameL)) hnl2))
    have hn5 : (upd H4 nl2 (.lst (nms nameL))) nl2 = some (.lst (nms nameL)) := upd_same
    have nnR2 := hR4.ne hnl2
    refine ⟨_, rfl, R, sc, 2, rfl, by decide, by decide, hR5, hS5, fun n1 H6 _ e6 hR6 => ⟨rfl, R, sc, nl2, 5, decide (V.int (n1 : Nat) = .int 0), rfl, by decide, by decide, hR6, hS5.ek e6, e6 _ _ nnR2 hn5, nnR2, fun p2 t2 xs2 H7 e7 hR7 hp20 np2R hp2 hpe2 c21 c22 c23 c24 => ?_⟩⟩
    have e47 : Ek R H4 H7 := ((Ek.of (Ex.new hnl2)).trans e6).trans e7
    have hp17 := e47 _ _ np1R hp1
    have hpe17 : PEnts H7 t1 xs1 := (hpe1.mono (nw_ek hR3 e47)).mono nw_ex
    have hpe27 : PEnts H7 t2 xs2 := hpe2.mono nw_ex
    clear hn5 hS5 hR5 hnl2 nnR2 e6 e7 e47 hpe1 hpe2 hp1 hS4 hR4 hR3 hR6 hp20 hp10
    -- the stacks
    refine ⟨_, rfl, p1, xs1, t1, rfl, hp17, hpe17, c13, by omega, by omega, c14, by omega, fun q1 H9 e9 hs1 => ⟨_, rfl, p2, xs2, t2, rfl, e9 _ _ hp2, hpe27.mono e9, c23, by omega, by omega, c24, by omega, fun q2 H10 e10 hs2 => ⟨_, _, rfl, ?_⟩⟩⟩
    have ok1 : Ok t1 := ⟨by omega, by omega, c14, by omega⟩
    have ok2 : Ok t2 := ⟨by omega, by omega, c24, by omega⟩
    refine ⟨_, rfl, _, rfl, _, rfl, q1, t1, rfl, hs1.mono (NL.of e10), ok1, by omega, fun q3 t3 H11 e11 hs3 ok3 like3 has3 => ⟨_, rfl, by show 1 ≤ sizeLine; decide, fun lw hlw => ?_⟩⟩
    have e7b := (e9.trans e10).trans (e11.trans (Ex.new (o := .lst [.ref p1]) hlw))
    refine ⟨lw, [.ref p1], .stk t1 .nil, rfl, upd_same, ⟨p1, xs1, [], rfl, e7b _ _ hp17, hpe17.mono e7b, rfl⟩, ?_, ?_, ?_, ?_, ?_, fun q4 H12 e12 hs4 => ⟨by show 4 ≤ sizeLine; decide, fun st hst => ?_⟩⟩
    · simp only [Tr.depth]; omega
    · simp only [Tr.count]; omega
    · simp only [Tr.len]; omega
    · exact ⟨by omega, c14, trivial⟩
    · simp only [Tr.depth]; omega
    have ok4 : Ok (.stk t1 .nil) := ⟨by simp only [Tr.count]; omega, by simp only [Tr.len]; omega, ⟨by omega, c14, trivial⟩, by simp only [Tr.depth]; omega⟩
    have e13 : Ex H12 (upd H12 st (.tup [.ref q1, .ref q2, .ref q3, .ref q4])) := Ex.new hst
    have g1 := hs1.mono (NL.of (((e10.trans e11).trans (Ex.new (o := .lst [.ref p1]) hlw)).trans (e12.trans e13)))
    have g2 := hs2.mono (NL.of ((e11.trans (Ex.new (o := .lst [.ref p1]) hlw)).trans (e12.trans e13)))
    have g3 := hs3.mono (NL.of ((Ex.new (o := .lst [.ref p1]) hlw).trans (e12.trans e13)))
    have g4 := hs4.mono (NL.of e13)
    have hst13 : (upd H12 st (.tup [.ref q1, .ref q2, .ref q3, .ref q4])) st = some (.tup [.ref q1, .ref q2, .ref q3, .ref q4]) := upd_same
    generalize upd H12 st (.tup [.ref q1, .ref q2, .ref q3, .ref q4]) = H13 at g1 g2 g3 g4 hst13 ⊢
    clear e13 e12 e11 e10 e9 e7b hs1 hs2 hs3 hs4 hst hlw hpe17 hpe27 hp17 hp2
    have like4 : Ka.Like t1 (.stk t1 .nil) := fun f => (Ka.out_wrap f t1).symm
    have has4 : ∀ n, (Tr.stk t1 .nil).has n = true → t1.has n = true := fun n h => by simpa [Tr.has] using h
    generalize hv : (Tr.stk t1 .nil) = t4 at like4 has4 ok4 g4 ⊢
    have four : ∀ i : Nat, i < 4 → ∃ q t, ([.ref q1, .ref q2, .ref q3, .ref q4] : List V)[i]? = some (.ref q) ∧ ([t1, t2, t3, t4] : List Tr)[i]? = some t ∧ StackAt a H13 q t ∧ Ok t := by
      intro i hi
      match i, hi with
      | 0, _ => exact ⟨q1, t1, rfl, rfl, g1, ok1⟩
      | 1, _ => exact ⟨q2, t2, rfl, rfl, g2, ok2⟩
      | 2, _ => exact ⟨q3, t3, rfl, rfl, g3, ok3⟩
      | 3, _ => exact ⟨q4, t4, rfl, rfl, g4, ok4⟩
    have hns : allN [t1, t2, t3, t4] = Ka.both t1 t2 := allN4 has3 has4
    -- the suspects
    refine ⟨fun σ H' => ∃ x D H14, σ = [some (.ref sc), some (.ref R), some (.ref p1), some (.ref p2), some (.ref q1), some (.ref q2), some (.ref st), some (.ref x), some (.ref D), none, none, none, none, none, none, none] ∧ Ex H13 H14 ∧ SusAt a H14 x (Ka.both t1 t2) [t1, t2, t3, t4] [0, 1, 2, 3] [] ∧ H14 D = none ∧ Ex H14 H' ∧ H' D = some (.lst []), ?_, ?_⟩
    · refine ⟨_, rfl, fun x dx hx hdx _ => ⟨x, dx, st, [(q1, t1), (q2, t2), (q3, t3), (q4, t4)], H13, rfl, upd_same, hx, ((Ex.refl _).mut hdx).mut hx, hst13, ?_, by simp, by show 4 ≤ 6; decide, fun H14 e14 hsus => ⟨rfl, Nat.zero_le _, fun D hD => ⟨_, _, rfl, x, D, H14, rfl, e14, ?_, hD, Ex.new hD, upd_same⟩⟩⟩⟩
      · intro p hp
        simp only [List.mem_cons, List.not_mem_nil, or_false] at hp
        rcases hp with rfl | rfl | rfl | rfl
        · exact ⟨g1, ok1⟩
        · exact ⟨g2, ok2⟩
        · exact ⟨g3, ok3⟩
        · exact ⟨g4, ok4⟩
      · rw [← hns]; exact hsus
    rintro σ0 H15 ⟨x, D, H14, rfl, e14, hsus, hDn, e15, hD15⟩
    obtain ⟨L, hL⟩ : ∃ L : Bool, L = true ↔ Ka.Like t1 t2 := by
      rw [← Ka.diff_none]
      cases Ka.diff t1 t2 with
      | none => exact ⟨true, by simp⟩
      | some _ => exact ⟨false, by simp⟩
    have hff := like_ff hL like3 like4
    -- who is alike
    refine ⟨fun σ H' => ∃ (es : List (Addr × List Nat)) (y9 y10 y14 y15 : Option V), σ = [some (.ref sc), some (.ref R), some (.ref p1), some (.ref p2), some (.ref q1), some (.ref q2), some (.ref st), some (.ref x), some (.ref D), y9, y10, none, none, none, y14, y15] ∧ Ex H14 H' ∧ H' D = some (.lst (es.map fun e => V.ref e.1)) ∧ (∀ e ∈ es, H' e.1 = some (.lst (nats e.2))) ∧ es.map (·.2) = dueOf L 4, ?_, ?_⟩
    · refine ⟨4, rfl, by decide, by decide, ?_⟩
      refine for_it (n := 4) walk_range (fun i σ H' => ∃ (es : List (Addr × List Nat)) (y9 y10 y14 y15 : Option V), σ = [some (.ref sc), some (.ref R), some (.ref p1), some (.ref p2), some (.ref q1), some (.ref q2), some (.ref st), some (.ref x), some (.ref D), y9, y10, none, none, none, y14, y15] ∧ Ex H14 H' ∧ H' D = some (.lst (es.map fun e => V.ref e.1)) ∧
          (∀ e ∈ es, H' e.1 = some (.lst (nats e.2)) ∧ H14 e.1 = none ∧ e.1 ≠ D ∧ e.2.length ≤ i ∧ ∃ h tl, e.2 = h :: tl ∧ h < 4) ∧ (es.map (·.1)).Nodup ∧ es.map (·.2) = dueOf L i ∧ es.length ≤ i)
        ⟨[], none, none, none, none, rfl, e15, hD15, (fun e he => by cases he), List.nodup_nil, rfl, Nat.le_refl _⟩ (fun _ _ _ _ _ => trivial) ?_ ?_
      · rintro i v σ _ H16 hi ⟨es, y9, y10, y14, y15, rfl, e16, hD16, hes, nda, edue, les⟩ ⟨rfl, rfl⟩
        rw [dueOf_succ, ← edue]
        have hst16 := e16 _ _ (e14 _ _ hst13)
        have lme : (es.map fun e => V.ref e.1).length = es.length := List.length_map _
        refine ⟨_, rfl, D, rfl, ⟨_, SqL.of hD16⟩, fun Sm hSm => ?_⟩
        refine lc_it walk_list (fun m H' => Ex H16 H' ∧ H' Sm = some (.lst (((es.take m).filter fun e => decide (ffL L (e.2.headD 0) = ffL L i)).map fun e => V.ref e.1))) ⟨Ex.new hSm, upd_same⟩ (fun m H' _ ⟨e, _⟩ => SqL.of (e _ _ hD16)) ?_ ?_
        · rintro m z _ H17 hm ⟨e17, hS17⟩ ⟨rfl, hz⟩
          rw [lme] at hm
          obtain rfl : z = .ref es[m].1 := by
            rw [List.getElem?_map, List.getElem?_eq_getElem hm] at hz
            exact (Option.some.inj hz).symm
          have hem : es[m]? = some es[m] := List.getElem?_eq_getElem hm
          obtain ⟨k1, k2, k3, k4, h, tl, k5, k6⟩ := hes es[m] (List.getElem_mem hm)
          rw [take_some hem, List.filter_append, List.map_append]
          generalize es[m] = e at k1 k2 k3 k4 k5 ⊢
          obtain ⟨qa, ta, f1, f2, f3, f4⟩ := four h k6
          obtain ⟨qb, tb, f5, f6, f7, f8⟩ := four i hi
          have hfl := hff h i ta tb f2 f6
          have e1317 := (e14.trans e16).trans e17
          have hk1 := e17 _ _ k1
          rw [k5] at hk1
          have hhd : e.2.headD 0 = h := by rw [k5]; rfl
          refine ⟨rfl, _, rfl, _, rfl, e.1, _, _, .int (h : Nat), rfl, rfl, SqL.of hk1, atI_nat (j := 0) rfl, st, _, _, _, rfl, rfl, SqT.of (e17 _ _ hst16), atI_nat f1, _, rfl, _, rfl, st, _, _, _, rfl, rfl, SqT.of (e17 _ _ hst16), by rw [Int.zero_add]; exact atI_nat f5, qa, qb, ta, tb, rfl, f3.mono (NL.of e1317), f7.mono (NL.of e1317), f4, f8, fun b H18 e18 hb => ?_⟩
          rw [List.filter_cons, List.filter_nil, hhd]
          cases b with
          | true =>
            have hh := hfl.mp (hb.mp rfl)
            refine ⟨true, rfl, iteT ⟨_, rfl, _, e18 _ _ hS17, ?_, (e17.trans e18).mut hSm, ?_⟩⟩
            · rw [List.length_map]
              have := List.length_filter_le (fun e : Addr × List Nat => decide (ffL L (e.2.headD 0) = ffL L i)) (es.take m)
              rw [List.length_take] at this
              exact sz_lt (by omega)
            · rw [upd_same, if_pos (decide_eq_true hh)]; rfl
          | false =>
            have hh : ¬ ffL L h = ffL L i := fun z => by have := hb.mpr (hfl.mpr z); cases this
            refine ⟨false, rfl, iteF ⟨e17.trans e18, ?_⟩⟩
            rw [e18 _ _ hS17, if_neg (by rw [decide_eq_false hh]; decide)]; simp
        · rintro H17 ⟨e17, hS17⟩
          rw [lme, List.take_length] at hS17
          have e1617 : Ex H14 H17 := e16.trans e17
          refine ⟨_, rfl, Nat.zero_le _, fun z hz => ⟨.list (((es.filter fun e => decide (ffL L (e.2.headD 0) = ffL L i)).map (·.2)).map natD), .list [], .lst (SqL.of (Ex.new hz _ _ hS17)) (gdp2 _ fun e he => Ex.new hz _ _ (e17 _ _ (hes e (List.mem_filter.mp he).1).1)), .lst (SqL.of upd_same) .nil, natDs_shaped _, by decide, ?_⟩⟩
          have e18 : Ex H17 (upd H17 z (.lst [])) := Ex.new hz
          generalize upd H17 z (.lst []) = H18 at e18 ⊢
          rw [list_eqv_nil]
          have e168 := e17.trans e18
          have hD18 := e168 _ _ hD16
          cases hfil : es.filter fun e => decide (ffL L (e.2.headD 0) = ffL L i) with
          | nil =>
            refine ⟨true, rfl, iteT ⟨_, rfl, .inl ⟨rfl, _, SqL.of hD18⟩, _, rfl, by show 1 ≤ sizeLine; decide, fun G hG => ⟨D, _, _, rfl, rfl, Ex.new hG _ _ hD18, sz_lt (by rw [lme]; omega), ?_⟩⟩⟩
            have nGD : G ≠ D := (ne_of_none hD18 hG).symm
            have hG14 : H14 G = none := fresh_back (e16.trans e168) hG
            refine ⟨es ++ [(G, [i])], _, _, _, _, rfl, ((e16.trans e168).trans (Ex.new hG)).mut hDn, by rw [upd_same, List.map_append]; rfl, ?_, ?_, ?_, by rw [List.length_append]; show es.length + 1 ≤ i + 1; omega⟩
            · intro e he
              rcases List.mem_append.mp he with he | he
              · obtain ⟨k1, k2, k3, k4, k5⟩ := hes e he
                exact ⟨by rw [upd_ne k3]; exact Ex.new hG _ _ (e168 _ _ k1), k2, k3, by omega, k5⟩
              · obtain rfl := List.mem_singleton.mp he
                refine ⟨?_, hG14, nGD, by show 1 ≤ i + 1; omega, i, [], rfl, hi⟩
                show (upd (upd H18 G (.lst [V.int (0 + (i : Int))])) D _) G = some (.lst [V.int (i : Nat)])
                rw [upd_ne nGD, upd_same, Int.zero_add]
            · rw [List.map_append, List.nodup_append]
              refine ⟨nda, by simp, fun u hu2 v hv2 => ?_⟩
              have ev : v = G := List.mem_singleton.mp hv2
              rw [ev]
              intro ez
              obtain ⟨e, he, e9⟩ := List.mem_map.mp hu2
              have := e168 _ _ (hes e he).1
              rw [show e.1 = G from e9.trans ez, hG] at this
              cases this
            · rw [stepA hfil, List.map_append]; rfl
          | cons e0 rest =>
            have he0 : e0 ∈ es := (List.mem_filter.mp (show e0 ∈ es.filter _ by rw [hfil]; exact List.mem_cons_self)).1
            obtain ⟨k1, k2, k3, k4, h, tl, k5, k6⟩ := hes e0 he0
            rw [hfil] at hS17
            have he18 := e168 _ _ k1
            refine ⟨false, rfl, iteF ⟨_, rfl, Sm, _, _, .ref e0.1, rfl, rfl, SqL.of (e18 _ _ hS17), atI_nat (j := 0) rfl, .inl ⟨rfl, _, SqL.of he18⟩, _, rfl, e0.1, _, _, rfl, rfl, he18, sz_lt (by rw [nats, List.length_map]; omega), ?_⟩⟩
            refine ⟨es.map (fun e => if e.1 = e0.1 then (e.1, e.2 ++ [i]) else e), _, _, _, _, rfl, (e16.trans e168).mut k2, ?_, ?_, ?_, (stepB hfil nda).symm, by rw [List.length_map]; omega⟩
            · rw [upd_ne k3.symm, hD18, List.map_map]
              congr 2
              refine List.map_congr_left fun e _ => ?_
              show V.ref e.1 = V.ref (if e.1 = e0.1 then (e.1, e.2 ++ [i]) else e).1
              split <;> rfl
            · intro e he
              obtain ⟨g, hg, rfl⟩ := List.mem_map.mp he
              obtain ⟨j1, j2, j3, j4, h', tl', j5, j6⟩ := hes g hg
              by_cases hge : g.1 = e0.1
              · rw [if_pos hge]
                obtain rfl := nodup_at nda hg he0 hge
                refine ⟨?_, j2, j3, by show (g.2 ++ [i]).length ≤ i + 1; rw [List.length_append]; show g.2.length + 1 ≤ i + 1; omega, h', tl' ++ [i], by show g.2 ++ [i] = _; rw [j5]; rfl, j6⟩
                show upd H18 g.1 (.lst (nats g.2 ++ [V.int (0 + (i : Int))])) g.1 = some (.lst (nats (g.2 ++ [i])))
                rw [upd_same, nats, nats, List.map_append, Int.zero_add]; rfl
              · rw [if_neg hge]
                exact ⟨by rw [upd_ne hge]; exact e168 _ _ j1, j2, j3, by omega, h', tl', j5, j6⟩
            · have : (es.map (fun e => if e.1 = e0.1 then (e.1, e.2 ++ [i]) else e)).map (·.1) = es.map (·.1) := by
                rw [List.map_map]; exact List.map_congr_left fun e _ => by show (if e.1 = e0.1 then (e.1, e.2 ++ [i]) else e).1 = e.1; split <;> rfl
              rw [this]; exact nda
      · rintro σ H16 ⟨es, y9, y10, y14, y15, rfl, e16, hD16, hes, nda, edue, les⟩
        exact ⟨es, _, _, _, _, rfl, e16, hD16, fun e he => (hes e he).1, edue⟩
    rintro σ1 H16 ⟨es, y9, y10, y14, y15, rfl, e16, hD16, hes, edue⟩
    have ndB := Ka.both_nodup t1 t2
    have lnB := Ka.both_len t1 t2
    have hhas1 : ∀ n, t1.has n = true → n ∈ Ka.both t1 t2 := fun n hn => Ka.mem_both.mpr (.inl hn)
    have hhas2 : ∀ n, t2.has n = true → n ∈ Ka.both t1 t2 := fun n hn => Ka.mem_both.mpr (.inr hn)
    have hled := Ka.led_eq ndB hhas1 hhas2
    obtain ⟨l0, l1, l2, l3⟩ := ledOf4 (ns := Ka.both t1 t2) (s := t1) (t := t2) like3 like4
    have hgrp : (grp (ledOf (Ka.both t1 t2) [t1, t2, t3, t4]) [0, 1, 2, 3]).map (·.2) = dueOf L 4 := by
      rw [grp4 l0 l1 l2 l3]
      cases L with
      | true => rw [if_pos (hled.mpr (hL.mp rfl))]; rfl
      | false => rw [if_neg fun z => by have := hL.mpr (hled.mp z); cases this]; rfl
    have hdue : ∀ H', Ex H16 H' → Dp K H' (.ref D) (.list ((dueOf L 4).map natD)) := fun H' e => by
      rw [← edue]
      exact .lst (SqL.of (e _ _ hD16)) (gdp2 es fun g hg => e _ _ (hes g hg))
    have hsus16 := hsus.mono e16
    have lt4 : ∀ i ∈ [0, 1, 2, 3], i < ([t1, t2, t3, t4] : List Tr).length := by
      intro i hi
      simp only [List.mem_cons, List.not_mem_nil, or_false] at hi
      show i < 4
      omega
    have hAB : ∀ i ∈ [0, 1, 2, 3], ledOf (Ka.both t1 t2) [t1, t2, t3, t4] i = Ka.led (Ka.both t1 t2) t1 ∨ ledOf (Ka.both t1 t2) [t1, t2, t3, t4] i = Ka.led (Ka.both t1 t2) t2 := by
      intro i hi
      simp only [List.mem_cons, List.not_mem_nil, or_false] at hi
      rcases hi with rfl | rfl | rfl | rfl
      · exact .inl l0
      · exact .inr l1
      · exact .inl l2
      · exact .inl l3
    -- groups, remaining
    obtain ⟨dx16, fs16, hx16, m1, m2, m3, m4⟩ := sus_ins hsus16
    refine ⟨_, rfl, x, dx16, fs16, rfl, hx16, m1, x, _, _, _, _, rfl, hsus16, lt4, by show 4 ≤ 900; decide, fun p H17 e17 hdp => ⟨_, rfl, _, _, hdp _ (Ex.refl _), hdue H17 e17, ?_, natDs_shaped _, ?_⟩⟩
    · rw [show ((grp (ledOf (Ka.both t1 t2) [t1, t2, t3, t4]) [0, 1, 2, 3]).map fun g => natD g.2) = (dueOf L 4).map natD by rw [← hgrp, List.map_map]; rfl]
      exact natDs_shaped _
    rw [show ((grp (ledOf (Ka.both t1 t2) [t1, t2, t3, t4]) [0, 1, 2, 3]).map fun g => natD g.2) = (dueOf L 4).map natD by rw [← hgrp, List.map_map]; rfl, natDs_eqv]
    refine ⟨false, rfl, iteF ?_⟩
    have hsus17 := hsus16.mono e17
    refine ⟨_, rfl, x, dx16, fs16, rfl, e17 _ _ hx16, x, _, _, _, _, rfl, hsus17, fun pr H18 e18 _ hpr => ⟨by show 4 ≤ sizeLine; decide, fun l hl => ⟨natD [0, 1, 2, 3], natD [0, 1, 2, 3], natD_dp (SqL.of (Ex.new hl _ _ hpr)), natD_dp (SqL.of upd_same), natD_shaped _, natD_shaped _, ?_⟩⟩⟩
    rw [natD_eqv]
    refine ⟨false, rfl, iteF ?_⟩
    have e1619 : Ex H16 (upd H18 l (.lst [.int 0, .int 1, .int 2, .int 3])) := (e17.trans e18).trans (Ex.new hl)
    generalize upd H18 l (.lst [.int 0, .int 1, .int 2, .int 3]) = H19 at e1619 ⊢
    clear hsus17 e17 e18 hpr hl hdp
    have e1319 := (e14.trans e16).trans e1619
    have hsus19 := hsus16.mono e1619
    have hx19 := e1619 _ _ hx16
    -- what parts the first two
    refine ⟨_, rfl, _, rfl, q1, q2, t1, t2, rfl, g1.mono (NL.of e1319), g2.mono (NL.of e1319), ok1, ok2, fun hd H20 e20 => ?_, fun al b hd z pa H20 e20 hz hpa => ?_⟩
    · have hl12 : Ka.Like t1 t2 := Ka.diff_none.mp hd
      obtain rfl : L = true := hL.mpr hl12
      have eAB := hled.mpr hl12
      refine ⟨_, rfl, rfl, true, rfl, iteT ?_⟩
      refine ⟨_, rfl, x, dx16, fs16, rfl, e20 _ _ hx19, m4, x, _, _, _, _, _, _, rfl, hsus19.mono e20, lnB, lt4, by show 4 ≤ 1000; decide, hAB, fun Lb Rr kn H21 e21 hRr hLb ndLb memLb hkn _ => ?_⟩
      obtain ⟨r, rfl⟩ := one_row (A := Ka.led (Ka.both t1 t2) t1) ndLb fun y => by
        rw [memLb]
        simp only [List.map_cons, List.map_nil, l0, l1, l2, l3, ← eAB]
        simp
      obtain ⟨j1, j2, _⟩ := hLb _ List.mem_cons_self
      refine ⟨Rr, r, .ref kn, _, rfl, hRr, SqT.of j1, j2, fun H22 e22 => ⟨rfl, true, rfl, iteT ?_⟩⟩
      refine ⟨_, rfl, by show 4 ≤ sizeLine; decide, fun y1 hy1 => ⟨by show 1 ≤ sizeLine; decide, fun y2 hy2 => ⟨_, .list ([[0, 1, 2, 3]].map natD), hdue _ ((e1619.trans e20).trans ((e21.trans e22).trans ((Ex.new hy1).trans (Ex.new hy2)))), .lst (SqL.of upd_same) (.cons (natD_dp (SqL.of (Ex.new hy2 _ _ upd_same))) .nil), natDs_shaped _, natDs_shaped _, ?_⟩⟩⟩
      rw [show dueOf true 4 = [[0, 1, 2, 3]] from rfl, natDs_eqv]
      exact k _
    · have hnl : ¬ Ka.Like t1 t2 := fun z => by rw [Ka.diff_none.mpr z] at hd; cases hd
      obtain rfl : L = false := by
        cases L with
        | true => exact absurd (hL.mp rfl) hnl
        | false => rfl
      have neAB : Ka.led (Ka.both t1 t2) t1 ≠ Ka.led (Ka.both t1 t2) t2 := fun z => hnl (hled.mp z)
      obtain ⟨j, hj, hne, hb, hbef⟩ := firstDiff_at hd
      have keys : al.map (·.1) = Ka.both t1 t2 := Ka.mem_answers.mp (List.mem_of_getElem? hj)
      refine ⟨_, rfl, rfl, false, rfl, iteF ?_⟩
      have e1620 := e1619.trans e20
      -- due, fewest_tests
      refine ⟨_, rfl, by show 3 ≤ sizeLine; decide, fun y1 hy1 => ⟨by show 1 ≤ sizeLine; decide, fun y2 hy2 => ⟨by show 2 ≤ sizeLine; decide, fun y3 hy3 => ⟨_, .list ([[0, 2, 3], [1]].map natD), hdue _ (e1620.trans (((Ex.new hy1).trans (Ex.new hy2)).trans (Ex.new hy3))), .lst (SqL.of upd_same) (.cons (natD_dp (SqL.of (Ex.new hy3 _ _ (Ex.new hy2 _ _ upd_same)))) (.cons (natD_dp (SqL.of (Ex.new hy3 _ _ upd_same))) .nil)), natDs_shaped _, natDs_shaped _, ?_⟩⟩⟩⟩
      rw [show dueOf false 4 = [[0, 2, 3], [1]] from rfl, natDs_eqv]
      refine ⟨false, rfl, iteF ?_⟩
      have e21 := ((Ex.new (o := .lst [.int 0, .int 2, .int 3]) hy1).trans (Ex.new (o := .lst [.int 1]) hy2)).trans (Ex.new (o := .lst [.ref y1, .ref y2]) hy3)
      generalize upd (upd (upd H20 y1 (.lst [.int 0, .int 2, .int 3])) y2 (.lst [.int 1])) y3 (.lst [.ref y1, .ref y2]) = H21 at e21 ⊢
      have e1621 := e1620.trans e21
      have hz21 := e21 _ _ hz
      have hpa21 := e21 _ _ hpa
      refine ⟨_, rfl, x, dx16, fs16, rfl, e1621 _ _ hx16, m4, x, _, _, _, _, _, _, rfl, hsus16.mono e1621, lnB, lt4, by show 4 ≤ 1000; decide, hAB, fun Lb Rr kn H22 e22 hRr hLb ndLb memLb hkn hknn => ?_⟩
      obtain ⟨r1, r2, c1, c2, rfl, hcc⟩ := two_rows neAB ndLb fun y => by
        rw [memLb]
        simp only [List.map_cons, List.map_nil, l0, l1, l2, l3]
        simp
        constructor
        · rintro (h | h | h)
          · exact .inl h
          · exact .inr h
          · exact .inl h
        · rintro (h | h)
          · exact .inl h
          · exact .inr (.inl h)
      obtain ⟨j1, j2, j3⟩ := hLb _ List.mem_cons_self
      obtain ⟨j4, j5, j6⟩ := hLb _ (List.mem_cons_of_mem _ List.mem_cons_self)
      have lc : ∀ y ∈ ([(r1, c1), (r2, c2)] : List (Addr × List Bool)).map (·.2), y.length = (Ka.answers (Ka.both t1 t2)).length := by
        intro y hy
        have := (memLb y).mp hy
        obtain ⟨i, hi, e⟩ := List.mem_map.mp this
        rcases hAB i hi with h | h <;> rw [← e, h] <;> exact List.length_map _
      have lcc : c1.length = c2.length := (lc c1 (by simp)).trans (lc c2 (by simp)).symm
      refine ⟨Rr, r1, r2, kn, c1, c2, rfl, hRr, SqT.of j1, SqT.of j4, lcc, Nat.le_trans j3 (by decide), hcc, hkn, fun H23 e23 => ⟨rfl, false, rfl, iteF ?_⟩⟩
      have e2123 : Ex H21 H23 := fun u o hu2 => e23 u o (ne_of_none hu2 hknn) (e22 u o hu2)
      have e1623 := e1621.trans e2123
      have hz23 := e2123 _ _ hz21
      have hpa23 := e2123 _ _ hpa21
      clear e23 e22 hkn hknn hRr hLb j1 j4 memLb ndLb e2123 hz21 hpa21 e21 hy1 hy2 hy3
      have hsus23 := hsus16.mono e1623
      -- the best answers
      refine ⟨_, rfl, x, dx16, fs16, rfl, e1623 _ _ hx16, m3, x, _, _, _, _, rfl, hsus23, lnB, lt4, by show 4 ≤ 1000; decide, fun j' al' pb H24 hj' hmin hfst e24 hpb => ?_⟩
      obtain rfl := best_is (t := t2) like3 like4 hj hne hbef hj' hmin hfst
      have e1624 := e1623.trans e24
      have e1324 := (e14.trans e16).trans e1624
      obtain ⟨dxa, paa, sta, nma, ysa, rsa, a1, _, _, _, _, a6⟩ := g1.mono (NL.of e1324)
      obtain ⟨dxb, pab, stb, nmb, ysb, rsb, b1, _, _, _, _, b6⟩ := g2.mono (NL.of e1324)
      -- the names
      have lA : (nms (Ka.names t1)).length ≤ 3 := by rw [nms, List.length_map]; exact Ka.names_len _
      have lB : (nms (Ka.names t2)).length ≤ 3 := by rw [nms, List.length_map]; exact Ka.names_len _
      refine ⟨_, rfl, q1, dxa, _, rfl, a1, q1, dxa, _, _, rfl, a1, lk_names .., nma, _, rfl, .inr (SqT.of a6), fun u1 hu1 => ⟨_, rfl, q2, dxb, _, rfl, Ex.new hu1 _ _ b1, q2, dxb, _, _, rfl, Ex.new hu1 _ _ b1, lk_names .., nmb, _, rfl, .inr (SqT.of (Ex.new hu1 _ _ b6)), fun u2 hu2 => ⟨u1, u2, _, _, rfl, rfl, Ex.new hu2 _ _ upd_same, upd_same, sz_of (by omega), fun u3 hu3 => ⟨u3, Ka.names t1 ++ Ka.names t2, rfl, .inl (SqL.of (by rw [upd_same, nms, nms, nms, List.map_append])), ?_, fun H25 pn e25 hpn => ?_⟩⟩⟩⟩
      · rw [List.length_append]
        rw [nms, List.length_map] at lA lB
        omega
      rw [sel_both]
      have e2426 := ((((Ex.new hu1).trans (Ex.new hu2)).trans (Ex.new hu3)).trans e25).trans (Ex.new (o := .lst (nms (Ka.both t1 t2))) hpn)
      have hpn26 : (upd H25 pn (.lst (nms (Ka.both t1 t2)))) pn = some (.lst (nms (Ka.both t1 t2))) := upd_same
      generalize upd H25 pn (.lst (nms (Ka.both t1 t2))) = H26 at e2426 hpn26 ⊢
      have hpb26 := e2426 _ _ hpb
      have hz26 := e2426 _ _ (e24 _ _ hz23)
      have hpa26 := e2426 _ _ (e24 _ _ hpa23)
      clear a1 a6 b1 b6 hu1 hu2 hu3 hpn e25
      -- the answers, name by name
      have lnn : (nms (Ka.both t1 t2)).length = (Ka.both t1 t2).length := List.length_map _
      have hget : ∀ (H' : Hp) (dd : Addr) (n : Nm), n ∈ Ka.both t1 t2 → H' dd = some (.dK (ansK al')) → DGet H' dd (.str (nmS n)) (some (.str (resS (al'.get n)))) := by
        intro H' dd n hn hdd
        rw [← ans_get (by rw [keys]; exact hn)]
        exact DGet.k (k := Sum.inr (nmS n)) hdd
      refine ⟨_, rfl, pn, rfl, ⟨_, SqL.of hpn26⟩, fun C1 hC1 => ?_⟩
      refine lc_all walk_list (by rw [lnn]; omega) hC1 (fun i v _ => (((Ka.both t1 t2).map al'.get).map fun r => V.str (resS r))[i]? = some v) (fun _ _ _ _ _ h => h) (fun H' e => SqL.of (e _ _ hpn26)) ?_ ?_
      · rintro i v _ H27 hi e27 ⟨rfl, hv⟩ R2 hR2
        rw [lnn] at hi
        obtain rfl : v = .str (nmS (Ka.both t1 t2)[i]) := by
          rw [nms, List.getElem?_map, List.getElem?_eq_getElem hi] at hv
          exact (Option.some.inj hv).symm
        exact ⟨rfl, _, rfl, _, rfl, pb, _, rfl, hget _ _ _ (List.getElem_mem hi) (e27 _ _ hpb26), hR2 _ _ (Ex.refl _) (by rw [List.getElem?_map, List.getElem?_map, List.getElem?_eq_getElem hi]; rfl)⟩
      intro ys1 H27 e27 hC17 ly1 hy1
      have ey1 : ys1 = ((Ka.both t1 t2).map al'.get).map fun r => V.str (resS r) := list_ext (by rw [ly1, lnn, List.length_map, List.length_map]) hy1
      subst ey1
      refine ⟨_, rfl, pn, rfl, ⟨_, SqL.of (e27 _ _ hpn26)⟩, fun C2 hC2 => ?_⟩
      refine lc_all walk_list (by rw [lnn]; omega) hC2 (fun i v _ => (((Ka.both t1 t2).map al'.get).map fun r => V.str (resS r))[i]? = some v) (fun _ _ _ _ _ h => h) (fun H' e => SqL.of (e _ _ (e27 _ _ hpn26))) ?_ ?_
      · rintro i v _ H28 hi e28 ⟨rfl, hv⟩ R2 hR2
        rw [lnn] at hi
        obtain rfl : v = .str (nmS (Ka.both t1 t2)[i]) := by
          rw [nms, List.getElem?_map, List.getElem?_eq_getElem hi] at hv
          exact (Option.some.inj hv).symm
        exact ⟨rfl, _, rfl, z, _, _, _, rfl, rfl, SqT.of (e28 _ _ (e27 _ _ hz26)), rfl, _, rfl, pa, _, rfl, hget _ _ _ (List.getElem_mem hi) (e28 _ _ (e27 _ _ hpa26)), hR2 _ _ (Ex.refl _) (by rw [List.getElem?_map, List.getElem?_map, List.getElem?_eq_getElem hi]; rfl)⟩
      intro ys2 H28 e28 hC28 ly2 hy2
      have ey2 : ys2 = ((Ka.both t1 t2).map al'.get).map fun r => V.str (resS r) := list_ext (by rw [ly2, lnn, List.length_map, List.length_map]) hy2
      subst ey2
      refine ⟨_, _, .lst (SqL.of (e28 _ _ hC17)) (resD_dp _), .lst (SqL.of hC28) (resD_dp _), resD_shaped _, resD_shaped _, ?_⟩
      rw [show PyData.eqv (.list (((Ka.both t1 t2).map al'.get).map fun r => PyData.str (resS r))) (.list (((Ka.both t1 t2).map al'.get).map fun r => PyData.str (resS r))) = true by simp only [PyData.eqv, resD_eqvA]]
      refine ⟨false, rfl, iteF ?_⟩
      have e2628 := e27.trans e28
      have e1628 := (e1624.trans e2426).trans e2628
      have hpb28 := e2628 _ _ hpb26
      have hz28 := e2628 _ _ hz26
      have hsus28 := hsus16.mono e1628
      have hx28 := e1628 _ _ hx16
      clear hC17 hC28 e27 e28 e2628 hC1 hC2
      -- see
      have hnoj : ∀ m : Nat, m < j → (Ka.answers (Ka.both t1 t2))[m]? ≠ some al' := fun m hm hh => hne (hbef m al' hm hh)
      have hleft : leftBy (Ka.both t1 t2) [t1, t2, t3, t4] [0, 1, 2, 3] al' (Ka.out al'.get t1) = [0, 2, 3] := left4 like3 like4 hne
      have npx : pb ≠ x := ne_of hpb28 hx28 (by intro z; cases z)
      have nzx : z ≠ x := ne_of hz28 hx28 (by intro z; cases z)
      refine ⟨_, rfl, x, dx16, fs16, rfl, hx28, m2, _, rfl, _, rfl, z, _, _, _, rfl, rfl, SqT.of hz28, atI_nat (j := 1) rfl, x, pb, b, _, _, _, al', j, rfl, hsus28, ndB, lnB, hpb28, hj, hnoj, lt4, by show 4 ≤ 1000; decide, by rw [hb, hleft]; simp, fun H29 tu d' nl29 sus29 htu29 hd29 => ?_⟩
      rw [hb, hleft] at sus29
      rw [hb, hleft]
      refine ⟨rfl, false, rfl, iteF ?_⟩
      have hpb29 := nl29 _ _ npx rfl hpb28
      have hz29 := nl29 _ _ nzx rfl hz28
      obtain ⟨dx29, fs29, hx29, w1, w2, w3, w4⟩ := sus_ins sus29
      refine ⟨_, rfl, x, dx29, fs29, rfl, hx29, x, _, _, _, _, rfl, sus29, fun pr H30 e30 _ hpr => ⟨by show 3 ≤ sizeLine; decide, fun l hl => ⟨natD [0, 2, 3], natD [0, 2, 3], natD_dp (SqL.of (Ex.new hl _ _ hpr)), natD_dp (SqL.of upd_same), natD_shaped _, natD_shaped _, ?_⟩⟩⟩
      rw [natD_eqv]
      refine ⟨false, rfl, iteF ?_⟩
      have e2931 : Ex H29 (upd H30 l (.lst [.int 0, .int 2, .int 3])) := e30.trans (Ex.new hl)
      generalize upd H30 l (.lst [.int 0, .int 2, .int 3]) = H31 at e2931 ⊢
      have lt3 : ∀ i ∈ [0, 2, 3], i < ([t1, t2, t3, t4] : List Tr).length := by
        intro i hi
        simp only [List.mem_cons, List.not_mem_nil, or_false] at hi
        show i < 4
        omega
      have sus31 := sus29.mono e2931
      have hx31 := e2931 _ _ hx29
      -- the end
      refine ⟨_, rfl, x, dx29, fs29, rfl, hx31, w4, x, _, _, _, _, Ka.led (Ka.both t1 t2) t1, Ka.led (Ka.both t1 t2) t1, rfl, sus31, lnB, lt3, by show 3 ≤ 1000; decide, ?_, fun Lb Rr kn H32 e32 hRr hLb ndLb memLb hkn _ => ?_⟩
      · intro i hi
        simp only [List.mem_cons, List.not_mem_nil, or_false] at hi
        rcases hi with rfl | rfl | rfl
        · exact .inl l0
        · exact .inl l2
        · exact .inl l3
      obtain ⟨r, rfl⟩ := one_row (A := Ka.led (Ka.both t1 t2) t1) ndLb fun y => by
        rw [memLb]
        simp only [List.map_cons, List.map_nil, l0, l2, l3]
        simp
      obtain ⟨j1, j2, _⟩ := hLb _ List.mem_cons_self
      refine ⟨Rr, r, .ref kn, _, rfl, hRr, SqT.of j1, j2, fun H33 e33 => ⟨rfl, true, rfl, iteT ?_⟩⟩
      have e3133 := e32.trans e33
      have sus33 := sus31.mono e3133
      refine ⟨_, rfl, x, dx29, fs29, rfl, e3133 _ _ hx31, w1, x, _, _, _, _, rfl, sus33, lt3, by show 3 ≤ 900; decide, fun p H34 e34 hdp => ⟨by show 3 ≤ sizeLine; decide, fun y1 hy1 => ⟨by show 1 ≤ sizeLine; decide, fun y2 hy2 => ?_⟩⟩⟩
      have eg3 : ((grp (ledOf (Ka.both t1 t2) [t1, t2, t3, t4]) [0, 2, 3]).map fun g => natD g.2) = [[0, 2, 3]].map natD := by
        rw [← grp3 l0 l2 l3, List.map_map]; rfl
      rw [eg3] at hdp
      refine ⟨_, .list ([[0, 2, 3]].map natD), hdp _ ((Ex.new hy1).trans (Ex.new hy2)), .lst (SqL.of upd_same) (.cons (natD_dp (SqL.of (Ex.new hy2 _ _ upd_same))) .nil), natDs_shaped _, natDs_shaped [[0, 2, 3]], ?_⟩
      rw [natDs_eqv]
      refine ⟨true, rfl, iteT ?_⟩
      have e3336 := (e34.trans (Ex.new (o := .lst [.int 0, .int 2, .int 3]) hy1)).trans (Ex.new (o := .lst [.ref y1]) hy2)
      generalize upd (upd H34 y1 (.lst [.int 0, .int 2, .int 3])) y2 (.lst [.ref y1]) = H36 at e3336 ⊢
      have e2936 := (e2931.trans e3133).trans e3336
      have lal : (ansK al').length ≤ 3 := by
        rw [ansK, List.length_map]
        have := congrArg List.length keys
        rw [List.length_map] at this
        omega
      refine ⟨_, rfl, x, dx29, fs29, rfl, e2936 _ _ hx29, x, _, _, _, tu, d', _, al', rfl, sus29.mono e2936, e2936 _ _ htu29, e2936 _ _ hd29, by omega, fun p3 t' d2 H37 e37 hp3 ht' hd2 => ?_⟩
      have e2937 := e2936.trans e37
      refine ⟨_, rfl, _, rfl, z, _, _, _, rfl, rfl, SqT.of (e2937 _ _ hz29), atI_nat (j := 1) rfl, by show 2 ≤ sizeLine; decide, fun w1' hw1 => ⟨by show 1 ≤ sizeLine; decide, fun w2' hw2 => ?_⟩⟩
      have eend := (Ex.new (o := .tup [.ref pb, .str (outS b)]) hw1).trans (Ex.new (o := .lst [.ref w1']) hw2)
      exact ⟨p3, w2', t', w1', d2, pb, outS b, al', rfl, rfl, SqL.of (eend _ _ hp3), SqL.of upd_same, SqT.of (eend _ _ ht'), SqT.of (Ex.new hw2 _ _ upd_same), eend _ _ hd2, eend _ _ (e2937 _ _ hpb29), by rw [keys]; exact ndB, k _⟩
end
end Kb

set_option Elab.async false
set_option linter.all false
set_option maxRecDepth 100000
set_option maxHeartbeats 8000000
/-! What the top has left; the walk. -/
namespace Kb
open PySem PySem.Spec PyProof.Rows L2
theorem defB_of {K : PySem.W.Frag} {mg : Str → Option Value} {x : Str} {st : Stmt} {ps : List Str} {f : Addr} {od an : Option Addr} {sl : Array (Option Value)} {oc kV dc pm cd ct : Value}
    (a : mg x = some (.ref f)) (l : K.lookup f = some ⟨oc, od, .func (PySem.W.fnOf x x (C8.fnArgs st) (C8.fnBody st) (C8.fnScope st) .none kV dc pm an cd ct), sl⟩) (c : PySem.W.codeIn K cd x = true) (k : PySem.W.keepIn K (.ref f) = true)
    (h : ∀ (kV doc pm : Value) (an : Option Addr) (cdv ct : Value) (us : List Value), us.length = ps.length → bindArgs (PySem.W.fnOf x x (C8.fnArgs st) (C8.fnBody st) (C8.fnScope st) .none kV doc pm an cdv ct) ⟨us, []⟩ = pure (ps.zip us)) : DefB K mg x st ps := by
  have F : C8.Fun K x x st f _ := ⟨⟨_, _, _, _, _, _, _, _, _, _, rfl, l, c⟩⟩
  exact ⟨f, _, ⟨F, a, k⟩, F.binds rfl h⟩
theorem metB_of {K : PySem.W.Frag} {C : Addr} {m qual : Str} {st : Stmt} {ps : List Str} {f : Addr} {od an : Option Addr} {sl : Array (Option Value)} {oc kV dc pm cd ct : Value}
    (a : PySem.W.findIn K (.ref C) m = some (some (.ref f))) (i : PySem.W.isFn K (.ref f) = true) (l : K.lookup f = some ⟨oc, od, .func (PySem.W.fnOf m qual (C8.fnArgs st) (C8.fnBody st) (C8.fnScope st) .none kV dc pm an cd ct), sl⟩) (c : PySem.W.codeIn K cd qual = true) (k : PySem.W.keepIn K (.ref f) = true)
    (h : ∀ (kV doc pm : Value) (an : Option Addr) (cdv ct : Value) (us : List Value), us.length = ps.length → bindArgs (PySem.W.fnOf m qual (C8.fnArgs st) (C8.fnBody st) (C8.fnScope st) .none kV doc pm an cdv ct) ⟨us, []⟩ = pure (ps.zip us)) : MetB K C m qual st ps := by
  have F : C8.Fun K m qual st f _ := ⟨⟨_, _, _, _, _, _, _, _, _, _, rfl, l, c⟩⟩
  exact ⟨f, _, ⟨a, i, k⟩, F, F.binds rfl h⟩
theorem makB_of {K : PySem.W.Frag} {C : Addr} {qual : Str} {st : Stmt} {ps : List Str} {f : Addr} {od an : Option Addr} {sl : Array (Option Value)} {oc kV dc pm cd ct : Value} (mk : PySem.W.makesIn K C = true) (kc : PySem.W.keepIn K (.ref C) = true)
    (a : PySem.W.findIn K (.ref C) "__init__" = some (some (.ref f))) (i : PySem.W.isFn K (.ref f) = true) (l : K.lookup f = some ⟨oc, od, .func (PySem.W.fnOf "__init__" qual (C8.fnArgs st) (C8.fnBody st) (C8.fnScope st) .none kV dc pm an cd ct), sl⟩) (c : PySem.W.codeIn K cd qual = true)
    (h : ∀ (kV doc pm : Value) (an : Option Addr) (cdv ct : Value) (us : List Value), us.length = ps.length → bindArgs (PySem.W.fnOf "__init__" qual (C8.fnArgs st) (C8.fnBody st) (C8.fnScope st) .none kV doc pm an cdv ct) ⟨us, []⟩ = pure (ps.zip us)) : MakB K C qual st ps := by
  have F : C8.Fun K "__init__" qual st f _ := ⟨⟨_, _, _, _, _, _, _, _, _, _, rfl, l, c⟩⟩
  exact ⟨f, _, ⟨mk, a, i, kc⟩, F, F.binds rfl h⟩
theorem prpB_of {K : PySem.W.Frag} {C : Addr} {m qual : Str} {st : Stmt} {p f : Addr} {rest : List Value} {od an : Option Addr} {sl : Array (Option Value)} {oc kV dc pm cd ct : Value}
    (a : PySem.W.findIn K (.ref C) m = some (some (.ref p))) (g : PySem.W.specialIn K (.ref p) "__get__" = some (some (.builtin "property.__get__"))) (t : PySem.W.takesIn K (.ref p) = some true) (r : PySem.W.recIn K p "property" = some (.ref f :: rest))
    (l : K.lookup f = some ⟨oc, od, .func (PySem.W.fnOf m qual (C8.fnArgs st) (C8.fnBody st) (C8.fnScope st) .none kV dc pm an cd ct), sl⟩) (c : PySem.W.codeIn K cd qual = true)
    (h : ∀ (kV doc pm : Value) (an : Option Addr) (cdv ct : Value) (us : List Value), us.length = (["self"] : List Str).length → bindArgs (PySem.W.fnOf m qual (C8.fnArgs st) (C8.fnBody st) (C8.fnScope st) .none kV doc pm an cdv ct) ⟨us, []⟩ = pure ((["self"] : List Str).zip us)) : PrpB K C m qual st := by
  have F : C8.Fun K m qual st f _ := ⟨⟨_, _, _, _, _, _, _, _, _, _, rfl, l, c⟩⟩
  exact ⟨p, f, _, ⟨a, g, t, rest, r⟩, F, F.binds rfl h⟩
theorem kit_self {K : PySem.W.Frag} {C : Addr} : PySem.W.kitOne K (.ref C) (.ref C) = some true := by unfold PySem.W.kitOne; simp
theorem kit_not {K : PySem.W.Frag} {C D f : Addr} (h1 : PySem.W.isClsIn K D = true) (h2 : PySem.W.typeIn K (.ref D) = some (.type "type")) (h3 : PySem.W.subIn K (.ref C) (.ref D) = some false) (h4 : PySem.W.findIn K (.ref D) "action_for" = some none) (h5 : PySem.W.findIn K (.ref C) "action_for" = some (some (.ref f))) : PySem.W.kitOne K (.ref C) (.ref D) = some false := by
  have ne : ¬ (Value.ref C == Value.ref D) = true := fun z => by
    have e := eq_of_beq z
    cases e
    rw [h4] at h5; cases h5
  unfold PySem.W.kitOne PySem.W.kitCls
  have h1' : (PySem.W.clsIn K D).isSome = true := h1
  rw [if_neg ne]
  show (if _ then _ else _) = _
  rw [if_pos (by rw [h1', h2]; rfl)]
  exact h3
/-- a tuple's object holds these -/
def TupO (o : Obj) (xs : List V) : Prop := o.cls = .type "tuple" ∧ o.dict = none ∧ ∃ (its : Array Value) (n : Nat), o.data = .seq its n ∧ its.size ≤ sizeLine ∧ Vals xs its.toList
theorem tupB_of {K : PySem.W.Frag} {mg : Str → Option Value} {x : Str} {a : Addr} {o : Obj} {xs : List V} (h : mg x = some (.ref a)) (l : K.lookup a = some o) (t : TupO o xs) : TupB K mg x a xs := by
  obtain ⟨t1, t2, its, n, t3, t4, t5⟩ := t
  exact ⟨h, o, its, n, l, t1, t2, t3, t4, t5⟩
set_option maxHeartbeats 32000000 in
theorem all_mk {l : PySem.W.OpenLaw} {w : World} {K : PySem.W.Frag} {h : Heap} {mg : Str → Option Value} {fa : Addr} (X : K.In h) (G : h.Ns mainGlobals mg) (hfa : mg "law" = some (.ref fa))
    {CRule CStack CRun CSuspects f1 f2 f3 f4 f5 f6 f7 f8 f9 f10 f11 f12 f13 f14 f15 f16 f17 f18 f19 f20 f21 f22 f23 f24 f25 f26 f27 f28 f29 f30 f31 f32 f33 f34 f35 f36 f37 f38 f39 p39 f40 p40 f41 p41 tRESULTS tACTIONS tNONE tGOOD : Addr} {od1 an1 od2 an2 od3 an3 od4 an4 od5 an5 od6 an6 od7 an7 od8 an8 od9 an9 od10 an10 od11 an11 od12 an12 od13 an13 od14 an14 od15 an15 od16 an16 od17 an17 od18 an18 od19 an19 od20 an20 od21 an21 od22 an22 od23 an23 od24 an24 od25 an25 od26 an26 od27 an27 od28 an28 od29 an29 od30 an30 od31 an31 od32 an32 od33 an33 od34 an34 od35 an35 od36 an36 od37 an37 od38 an38 od39 an39 od40 an40 od41 an41 : Option Addr} {sl1 sl2 sl3 sl4 sl5 sl6 sl7 sl8 sl9 sl10 sl11 sl12 sl13 sl14 sl15 sl16 sl17 sl18 sl19 sl20 sl21 sl22 sl23 sl24 sl25 sl26 sl27 sl28 sl29 sl30 sl31 sl32 sl33 sl34 sl35 sl36 sl37 sl38 sl39 sl40 sl41 : Array (Option Value)} {oc1 kV1 dc1 pm1 cd1 ct1 oc2 kV2 dc2 pm2 cd2 ct2 oc3 kV3 dc3 pm3 cd3 ct3 oc4 kV4 dc4 pm4 cd4 ct4 oc5 kV5 dc5 pm5 cd5 ct5 oc6 kV6 dc6 pm6 cd6 ct6 oc7 kV7 dc7 pm7 cd7 ct7 oc8 kV8 dc8 pm8 cd8 ct8 oc9 kV9 dc9 pm9 cd9 ct9 oc10 kV10 dc10 pm10 cd10 ct10 oc11 kV11 dc11 pm11 cd11 ct11 oc12 kV12 dc12 pm12 cd12 ct12 oc13 kV13 dc13 pm13 cd13 ct13 oc14 kV14 dc14 pm14 cd14 ct14 oc15 kV15 dc15 pm15 cd15 ct15 oc16 kV16 dc16 pm16 cd16 ct16 oc17 kV17 dc17 pm17 cd17 ct17 oc18 kV18 dc18 pm18 cd18 ct18 oc19 kV19 dc19 pm19 cd19 ct19 oc20 kV20 dc20 pm20 cd20 ct20 oc21 kV21 dc21 pm21 cd21 ct21 oc22 kV22 dc22 pm22 cd22 ct22 oc23 kV23 dc23 pm23 cd23 ct23 oc24 kV24 dc24 pm24 cd24 ct24 oc25 kV25 dc25 pm25 cd25 ct25 oc26 kV26 dc26 pm26 cd26 ct26 oc27 kV27 dc27 pm27 cd27 ct27 oc28 kV28 dc28 pm28 cd28 ct28 oc29 kV29 dc29 pm29 cd29 ct29 oc30 kV30 dc30 pm30 cd30 ct30 oc31 kV31 dc31 pm31 cd31 ct31 oc32 kV32 dc32 pm32 cd32 ct32 oc33 kV33 dc33 pm33 cd33 ct33 oc34 kV34 dc34 pm34 cd34 ct34 oc35 kV35 dc35 pm35 cd35 ct35 oc36 kV36 dc36 pm36 cd36 ct36 oc37 kV37 dc37 pm37 cd37 ct37 oc38 kV38 dc38 pm38 cd38 ct38 oc39 kV39 dc39 pm39 cd39 ct39 oc40 kV40 dc40 pm40 cd40 ct40 oc41 kV41 dc41 pm41 cd41 ct41 vYES vNO vSKIP vGONE vOK vBAD vDIE vDONE vIGNORE vRESET vLETTERS vIN vOUT vMOST_JUMP vMOST_LETTERS vMOST_ENTRIES vMOST_RULES vMOST_MODULES_stacks vMOST_DEPTH vMOST_STACKS vMOST_MODULES_suspects : Value} {rs39 rs40 rs41 : List Value} {oRESULTS oACTIONS oNONE oGOOD : Obj}
    (aRule : PySem.W.nsIn K mainGlobals "Rule" = some (some (.ref CRule)))
    (pgRule : PySem.W.plainGet K CRule Str.empty = true)
    (hdRule : PySem.W.hasDictIn K CRule = true)
    (poRule : PySem.W.plainOver K CRule = true)
    (saRule : PySem.W.findIn K (.ref CRule) "__setattr__" = some (some (.builtin "object.__setattr__")))
    (mkRule : PySem.W.makesIn K CRule = true)
    (kcRule : PySem.W.keepIn K (.ref CRule) = true)
    (nRule_asks : PySem.W.findIn K (.ref CRule) "asks" = some none)
    (nRule_acts : PySem.W.findIn K (.ref CRule) "acts" = some none)
    (aStack : PySem.W.nsIn K mainGlobals "Stack" = some (some (.ref CStack)))
    (pgStack : PySem.W.plainGet K CStack Str.empty = true)
    (hdStack : PySem.W.hasDictIn K CStack = true)
    (poStack : PySem.W.plainOver K CStack = true)
    (saStack : PySem.W.findIn K (.ref CStack) "__setattr__" = some (some (.builtin "object.__setattr__")))
    (mkStack : PySem.W.makesIn K CStack = true)
    (kcStack : PySem.W.keepIn K (.ref CStack) = true)
    (nStack_parts : PySem.W.findIn K (.ref CStack) "parts" = some none)
    (nStack_steps : PySem.W.findIn K (.ref CStack) "steps" = some none)
    (nStack_names : PySem.W.findIn K (.ref CStack) "names" = some none)
    (nStack_depth : PySem.W.findIn K (.ref CStack) "depth" = some none)
    (aRun : PySem.W.nsIn K mainGlobals "Run" = some (some (.ref CRun)))
    (pgRun : PySem.W.plainGet K CRun Str.empty = true)
    (hdRun : PySem.W.hasDictIn K CRun = true)
    (poRun : PySem.W.plainOver K CRun = true)
    (saRun : PySem.W.findIn K (.ref CRun) "__setattr__" = some (some (.builtin "object.__setattr__")))
    (mkRun : PySem.W.makesIn K CRun = true)
    (kcRun : PySem.W.keepIn K (.ref CRun) = true)
    (nRun_told : PySem.W.findIn K (.ref CRun) "told" = some none)
    (nRun_asked_rules : PySem.W.findIn K (.ref CRun) "asked_rules" = some none)
    (nRun_mark : PySem.W.findIn K (.ref CRun) "mark" = some none)
    (aSuspects : PySem.W.nsIn K mainGlobals "Suspects" = some (some (.ref CSuspects)))
    (pgSuspects : PySem.W.plainGet K CSuspects Str.empty = true)
    (hdSuspects : PySem.W.hasDictIn K CSuspects = true)
    (poSuspects : PySem.W.plainOver K CSuspects = true)
    (saSuspects : PySem.W.findIn K (.ref CSuspects) "__setattr__" = some (some (.builtin "object.__setattr__")))
    (mkSuspects : PySem.W.makesIn K CSuspects = true)
    (kcSuspects : PySem.W.keepIn K (.ref CSuspects) = true)
    (nSuspects_all_names : PySem.W.findIn K (.ref CSuspects) "all_names" = some none)
    (nSuspects_all_rows : PySem.W.findIn K (.ref CSuspects) "all_rows" = some none)
    (nSuspects_led_words : PySem.W.findIn K (.ref CSuspects) "led_words" = some none)
    (nSuspects_left : PySem.W.findIn K (.ref CSuspects) "left" = some none)
    (nSuspects_facts : PySem.W.findIn K (.ref CSuspects) "facts" = some none)
    (xhn : PySem.W.specialIn K (.builtin "object.__class__") "__get__" = some (some (.builtin "getset_descriptor.__get__")))
    (xtk : PySem.W.takesIn K (.builtin "object.__class__") = some true)
    (xaRule : PySem.W.findIn K (.ref CRule) "__class__" = some (some (.builtin "object.__class__")))
    (xmRule : PySem.W.mroIn K CRule (.type "object") = some true)
    (xaStack : PySem.W.findIn K (.ref CStack) "__class__" = some (some (.builtin "object.__class__")))
    (xmStack : PySem.W.mroIn K CStack (.type "object") = some true)
    (rn1 : PySem.W.isClsIn K CStack = true)
    (rn2 : PySem.W.typeIn K (.ref CStack) = some (.type "type"))
    (rn3 : PySem.W.subIn K (.ref CRule) (.ref CStack) = some false)
    (rn4 : PySem.W.findIn K (.ref CStack) "action_for" = some none)
    (ssf : PySem.W.selfFirst K CStack = true)
    (a1 : PySem.W.nsIn K mainGlobals "is_number" = some (some (.ref f1)))
    (l1 : K.lookup f1 = some ⟨oc1, od1, .func (PySem.W.fnOf "is_number" "is_number" (C8.fnArgs sIsNumber) (C8.fnBody sIsNumber) (C8.fnScope sIsNumber) .none kV1 dc1 pm1 an1 cd1 ct1), sl1⟩)
    (c1 : PySem.W.codeIn K cd1 "is_number" = true)
    (k1 : PySem.W.keepIn K (.ref f1) = true)
    (a2 : PySem.W.nsIn K mainGlobals "is_word" = some (some (.ref f2)))
    (l2 : K.lookup f2 = some ⟨oc2, od2, .func (PySem.W.fnOf "is_word" "is_word" (C8.fnArgs sIsWord) (C8.fnBody sIsWord) (C8.fnScope sIsWord) .none kV2 dc2 pm2 an2 cd2 ct2), sl2⟩)
    (c2 : PySem.W.codeIn K cd2 "is_word" = true)
    (k2 : PySem.W.keepIn K (.ref f2) = true)
    (a3 : PySem.W.nsIn K mainGlobals "is_action" = some (some (.ref f3)))
    (l3 : K.lookup f3 = some ⟨oc3, od3, .func (PySem.W.fnOf "is_action" "is_action" (C8.fnArgs sIsAction) (C8.fnBody sIsAction) (C8.fnScope sIsAction) .none kV3 dc3 pm3 an3 cd3 ct3), sl3⟩)
    (c3 : PySem.W.codeIn K cd3 "is_action" = true)
    (k3 : PySem.W.keepIn K (.ref f3) = true)
    (a4 : PySem.W.nsIn K mainGlobals "table_of" = some (some (.ref f4)))
    (l4 : K.lookup f4 = some ⟨oc4, od4, .func (PySem.W.fnOf "table_of" "table_of" (C8.fnArgs sTableOf) (C8.fnBody sTableOf) (C8.fnScope sTableOf) .none kV4 dc4 pm4 an4 cd4 ct4), sl4⟩)
    (c4 : PySem.W.codeIn K cd4 "table_of" = true)
    (k4 : PySem.W.keepIn K (.ref f4) = true)
    (a5 : PySem.W.findIn K (.ref CRule) "__init__" = some (some (.ref f5)))
    (i5 : PySem.W.isFn K (.ref f5) = true)
    (l5 : K.lookup f5 = some ⟨oc5, od5, .func (PySem.W.fnOf "__init__" "Rule.__init__" (C8.fnArgs sRuleInit) (C8.fnBody sRuleInit) (C8.fnScope sRuleInit) .none kV5 dc5 pm5 an5 cd5 ct5), sl5⟩)
    (c5 : PySem.W.codeIn K cd5 "Rule.__init__" = true)
    (a6 : PySem.W.findIn K (.ref CRule) "action_for" = some (some (.ref f6)))
    (i6 : PySem.W.isFn K (.ref f6) = true)
    (l6 : K.lookup f6 = some ⟨oc6, od6, .func (PySem.W.fnOf "action_for" "Rule.action_for" (C8.fnArgs sActionFor) (C8.fnBody sActionFor) (C8.fnScope sActionFor) .none kV6 dc6 pm6 an6 cd6 ct6), sl6⟩)
    (c6 : PySem.W.codeIn K cd6 "Rule.action_for" = true)
    (k6 : PySem.W.keepIn K (.ref f6) = true)
    (a7 : PySem.W.findIn K (.ref CStack) "__init__" = some (some (.ref f7)))
    (i7 : PySem.W.isFn K (.ref f7) = true)
    (l7 : K.lookup f7 = some ⟨oc7, od7, .func (PySem.W.fnOf "__init__" "Stack.__init__" (C8.fnArgs sStackInit) (C8.fnBody sStackInit) (C8.fnScope sStackInit) .none kV7 dc7 pm7 an7 cd7 ct7), sl7⟩)
    (c7 : PySem.W.codeIn K cd7 "Stack.__init__" = true)
    (a8 : PySem.W.findIn K (.ref CStack) "__add__" = some (some (.ref f8)))
    (i8 : PySem.W.isFn K (.ref f8) = true)
    (l8 : K.lookup f8 = some ⟨oc8, od8, .func (PySem.W.fnOf "__add__" "Stack.__add__" (C8.fnArgs sStackAdd) (C8.fnBody sStackAdd) (C8.fnScope sStackAdd) .none kV8 dc8 pm8 an8 cd8 ct8), sl8⟩)
    (c8 : PySem.W.codeIn K cd8 "Stack.__add__" = true)
    (k8 : PySem.W.keepIn K (.ref f8) = true)
    (a9 : PySem.W.findIn K (.ref CStack) "without" = some (some (.ref f9)))
    (i9 : PySem.W.isFn K (.ref f9) = true)
    (l9 : K.lookup f9 = some ⟨oc9, od9, .func (PySem.W.fnOf "without" "Stack.without" (C8.fnArgs sWithout) (C8.fnBody sWithout) (C8.fnScope sWithout) .none kV9 dc9 pm9 an9 cd9 ct9), sl9⟩)
    (c9 : PySem.W.codeIn K cd9 "Stack.without" = true)
    (k9 : PySem.W.keepIn K (.ref f9) = true)
    (a10 : PySem.W.nsIn K mainGlobals "steps_of" = some (some (.ref f10)))
    (l10 : K.lookup f10 = some ⟨oc10, od10, .func (PySem.W.fnOf "steps_of" "steps_of" (C8.fnArgs sStepsOf) (C8.fnBody sStepsOf) (C8.fnScope sStepsOf) .none kV10 dc10 pm10 an10 cd10 ct10), sl10⟩)
    (c10 : PySem.W.codeIn K cd10 "steps_of" = true)
    (k10 : PySem.W.keepIn K (.ref f10) = true)
    (a11 : PySem.W.nsIn K mainGlobals "firsts_of" = some (some (.ref f11)))
    (l11 : K.lookup f11 = some ⟨oc11, od11, .func (PySem.W.fnOf "firsts_of" "firsts_of" (C8.fnArgs sFirstsOf) (C8.fnBody sFirstsOf) (C8.fnScope sFirstsOf) .none kV11 dc11 pm11 an11 cd11 ct11), sl11⟩)
    (c11 : PySem.W.codeIn K cd11 "firsts_of" = true)
    (k11 : PySem.W.keepIn K (.ref f11) = true)
    (a12 : PySem.W.nsIn K mainGlobals "kept" = some (some (.ref f12)))
    (l12 : K.lookup f12 = some ⟨oc12, od12, .func (PySem.W.fnOf "kept" "kept" (C8.fnArgs sKept) (C8.fnBody sKept) (C8.fnScope sKept) .none kV12 dc12 pm12 an12 cd12 ct12), sl12⟩)
    (c12 : PySem.W.codeIn K cd12 "kept" = true)
    (k12 : PySem.W.keepIn K (.ref f12) = true)
    (a13 : PySem.W.findIn K (.ref CRun) "__init__" = some (some (.ref f13)))
    (i13 : PySem.W.isFn K (.ref f13) = true)
    (l13 : K.lookup f13 = some ⟨oc13, od13, .func (PySem.W.fnOf "__init__" "Run.__init__" (C8.fnArgs sRunInit) (C8.fnBody sRunInit) (C8.fnScope sRunInit) .none kV13 dc13 pm13 an13 cd13 ct13), sl13⟩)
    (c13 : PySem.W.codeIn K cd13 "Run.__init__" = true)
    (a14 : PySem.W.findIn K (.ref CRun) "ended" = some (some (.ref f14)))
    (i14 : PySem.W.isFn K (.ref f14) = true)
    (l14 : K.lookup f14 = some ⟨oc14, od14, .func (PySem.W.fnOf "ended" "Run.ended" (C8.fnArgs sEnded) (C8.fnBody sEnded) (C8.fnScope sEnded) .none kV14 dc14 pm14 an14 cd14 ct14), sl14⟩)
    (c14 : PySem.W.codeIn K cd14 "Run.ended" = true)
    (k14 : PySem.W.keepIn K (.ref f14) = true)
    (a15 : PySem.W.findIn K (.ref CRun) "outcome" = some (some (.ref f15)))
    (i15 : PySem.W.isFn K (.ref f15) = true)
    (l15 : K.lookup f15 = some ⟨oc15, od15, .func (PySem.W.fnOf "outcome" "Run.outcome" (C8.fnArgs sOutcome) (C8.fnBody sOutcome) (C8.fnScope sOutcome) .none kV15 dc15 pm15 an15 cd15 ct15), sl15⟩)
    (c15 : PySem.W.codeIn K cd15 "Run.outcome" = true)
    (k15 : PySem.W.keepIn K (.ref f15) = true)
    (a16 : PySem.W.nsIn K mainGlobals "marked" = some (some (.ref f16)))
    (l16 : K.lookup f16 = some ⟨oc16, od16, .func (PySem.W.fnOf "marked" "marked" (C8.fnArgs sMarked) (C8.fnBody sMarked) (C8.fnScope sMarked) .none kV16 dc16 pm16 an16 cd16 ct16), sl16⟩)
    (c16 : PySem.W.codeIn K cd16 "marked" = true)
    (k16 : PySem.W.keepIn K (.ref f16) = true)
    (a17 : PySem.W.nsIn K mainGlobals "need_answers" = some (some (.ref f17)))
    (l17 : K.lookup f17 = some ⟨oc17, od17, .func (PySem.W.fnOf "need_answers" "need_answers" (C8.fnArgs sNeedAnswers) (C8.fnBody sNeedAnswers) (C8.fnScope sNeedAnswers) .none kV17 dc17 pm17 an17 cd17 ct17), sl17⟩)
    (c17 : PySem.W.codeIn K cd17 "need_answers" = true)
    (k17 : PySem.W.keepIn K (.ref f17) = true)
    (a18 : PySem.W.nsIn K mainGlobals "all_answers" = some (some (.ref f18)))
    (l18 : K.lookup f18 = some ⟨oc18, od18, .func (PySem.W.fnOf "all_answers" "all_answers" (C8.fnArgs sAllAnswers) (C8.fnBody sAllAnswers) (C8.fnScope sAllAnswers) .none kV18 dc18 pm18 an18 cd18 ct18), sl18⟩)
    (c18 : PySem.W.codeIn K cd18 "all_answers" = true)
    (k18 : PySem.W.keepIn K (.ref f18) = true)
    (a19 : PySem.W.nsIn K mainGlobals "need_word" = some (some (.ref f19)))
    (l19 : K.lookup f19 = some ⟨oc19, od19, .func (PySem.W.fnOf "need_word" "need_word" (C8.fnArgs sNeedWord) (C8.fnBody sNeedWord) (C8.fnScope sNeedWord) .none kV19 dc19 pm19 an19 cd19 ct19), sl19⟩)
    (c19 : PySem.W.codeIn K cd19 "need_word" = true)
    (k19 : PySem.W.keepIn K (.ref f19) = true)
    (a20 : PySem.W.nsIn K mainGlobals "fewest_splits" = some (some (.ref f20)))
    (l20 : K.lookup f20 = some ⟨oc20, od20, .func (PySem.W.fnOf "fewest_splits" "fewest_splits" (C8.fnArgs sSplits) (C8.fnBody sSplits) (C8.fnScope sSplits) .none kV20 dc20 pm20 an20 cd20 ct20), sl20⟩)
    (c20 : PySem.W.codeIn K cd20 "fewest_splits" = true)
    (k20 : PySem.W.keepIn K (.ref f20) = true)
    (a21 : PySem.W.findIn K (.ref CSuspects) "__init__" = some (some (.ref f21)))
    (i21 : PySem.W.isFn K (.ref f21) = true)
    (l21 : K.lookup f21 = some ⟨oc21, od21, .func (PySem.W.fnOf "__init__" "Suspects.__init__" (C8.fnArgs sSusInit) (C8.fnBody sSusInit) (C8.fnScope sSusInit) .none kV21 dc21 pm21 an21 cd21 ct21), sl21⟩)
    (c21 : PySem.W.codeIn K cd21 "Suspects.__init__" = true)
    (a22 : PySem.W.findIn K (.ref CSuspects) "see" = some (some (.ref f22)))
    (i22 : PySem.W.isFn K (.ref f22) = true)
    (l22 : K.lookup f22 = some ⟨oc22, od22, .func (PySem.W.fnOf "see" "Suspects.see" (C8.fnArgs sSee) (C8.fnBody sSee) (C8.fnScope sSee) .none kV22 dc22 pm22 an22 cd22 ct22), sl22⟩)
    (c22 : PySem.W.codeIn K cd22 "Suspects.see" = true)
    (k22 : PySem.W.keepIn K (.ref f22) = true)
    (a23 : PySem.W.findIn K (.ref CSuspects) "groups" = some (some (.ref f23)))
    (i23 : PySem.W.isFn K (.ref f23) = true)
    (l23 : K.lookup f23 = some ⟨oc23, od23, .func (PySem.W.fnOf "groups" "Suspects.groups" (C8.fnArgs sGroups) (C8.fnBody sGroups) (C8.fnScope sGroups) .none kV23 dc23 pm23 an23 cd23 ct23), sl23⟩)
    (c23 : PySem.W.codeIn K cd23 "Suspects.groups" = true)
    (k23 : PySem.W.keepIn K (.ref f23) = true)
    (a24 : PySem.W.findIn K (.ref CSuspects) "best_answers" = some (some (.ref f24)))
    (i24 : PySem.W.isFn K (.ref f24) = true)
    (l24 : K.lookup f24 = some ⟨oc24, od24, .func (PySem.W.fnOf "best_answers" "Suspects.best_answers" (C8.fnArgs sBest) (C8.fnBody sBest) (C8.fnScope sBest) .none kV24 dc24 pm24 an24 cd24 ct24), sl24⟩)
    (c24 : PySem.W.codeIn K cd24 "Suspects.best_answers" = true)
    (k24 : PySem.W.keepIn K (.ref f24) = true)
    (a25 : PySem.W.findIn K (.ref CSuspects) "fewest_tests" = some (some (.ref f25)))
    (i25 : PySem.W.isFn K (.ref f25) = true)
    (l25 : K.lookup f25 = some ⟨oc25, od25, .func (PySem.W.fnOf "fewest_tests" "Suspects.fewest_tests" (C8.fnArgs sFewest) (C8.fnBody sFewest) (C8.fnScope sFewest) .none kV25 dc25 pm25 an25 cd25 ct25), sl25⟩)
    (c25 : PySem.W.codeIn K cd25 "Suspects.fewest_tests" = true)
    (k25 : PySem.W.keepIn K (.ref f25) = true)
    (a26 : PySem.W.nsIn K mainGlobals "both_outcomes" = some (some (.ref f26)))
    (l26 : K.lookup f26 = some ⟨oc26, od26, .func (PySem.W.fnOf "both_outcomes" "both_outcomes" (C8.fnArgs sBothOut) (C8.fnBody sBothOut) (C8.fnScope sBothOut) .none kV26 dc26 pm26 an26 cd26 ct26), sl26⟩)
    (c26 : PySem.W.codeIn K cd26 "both_outcomes" = true)
    (k26 : PySem.W.keepIn K (.ref f26) = true)
    (a27 : PySem.W.nsIn K mainGlobals "first_difference" = some (some (.ref f27)))
    (l27 : K.lookup f27 = some ⟨oc27, od27, .func (PySem.W.fnOf "first_difference" "first_difference" (C8.fnArgs sFirstDiff) (C8.fnBody sFirstDiff) (C8.fnScope sFirstDiff) .none kV27 dc27 pm27 an27 cd27 ct27), sl27⟩)
    (c27 : PySem.W.codeIn K cd27 "first_difference" = true)
    (k27 : PySem.W.keepIn K (.ref f27) = true)
    (a28 : PySem.W.nsIn K mainGlobals "alike" = some (some (.ref f28)))
    (l28 : K.lookup f28 = some ⟨oc28, od28, .func (PySem.W.fnOf "alike" "alike" (C8.fnArgs sAlike) (C8.fnBody sAlike) (C8.fnScope sAlike) .none kV28 dc28 pm28 an28 cd28 ct28), sl28⟩)
    (c28 : PySem.W.codeIn K cd28 "alike" = true)
    (k28 : PySem.W.keepIn K (.ref f28) = true)
    (a29 : PySem.W.nsIn K mainGlobals "subsets" = some (some (.ref f29)))
    (l29 : K.lookup f29 = some ⟨oc29, od29, .func (PySem.W.fnOf "subsets" "subsets" (C8.fnArgs sSubsets) (C8.fnBody sSubsets) (C8.fnScope sSubsets) .none kV29 dc29 pm29 an29 cd29 ct29), sl29⟩)
    (c29 : PySem.W.codeIn K cd29 "subsets" = true)
    (k29 : PySem.W.keepIn K (.ref f29) = true)
    (a30 : PySem.W.nsIn K mainGlobals "least_kept" = some (some (.ref f30)))
    (l30 : K.lookup f30 = some ⟨oc30, od30, .func (PySem.W.fnOf "least_kept" "least_kept" (C8.fnArgs sLeastKept) (C8.fnBody sLeastKept) (C8.fnScope sLeastKept) .none kV30 dc30 pm30 an30 cd30 ct30), sl30⟩)
    (c30 : PySem.W.codeIn K cd30 "least_kept" = true)
    (k30 : PySem.W.keepIn K (.ref f30) = true)
    (a31 : PySem.W.nsIn K mainGlobals "least_stack" = some (some (.ref f31)))
    (l31 : K.lookup f31 = some ⟨oc31, od31, .func (PySem.W.fnOf "least_stack" "least_stack" (C8.fnArgs sLeastStack) (C8.fnBody sLeastStack) (C8.fnScope sLeastStack) .none kV31 dc31 pm31 an31 cd31 ct31), sl31⟩)
    (c31 : PySem.W.codeIn K cd31 "least_stack" = true)
    (k31 : PySem.W.keepIn K (.ref f31) = true)
    (a32 : PySem.W.nsIn K mainGlobals "_law_taken" = some (some (.ref f32)))
    (l32 : K.lookup f32 = some ⟨oc32, od32, .func (PySem.W.fnOf "_law_taken" "_law_taken" (C8.fnArgs sTaken) (C8.fnBody sTaken) (C8.fnScope sTaken) .none kV32 dc32 pm32 an32 cd32 ct32), sl32⟩)
    (c32 : PySem.W.codeIn K cd32 "_law_taken" = true)
    (k32 : PySem.W.keepIn K (.ref f32) = true)
    (a33 : PySem.W.nsIn K mainGlobals "_law_pick" = some (some (.ref f33)))
    (l33 : K.lookup f33 = some ⟨oc33, od33, .func (PySem.W.fnOf "_law_pick" "_law_pick" (C8.fnArgs sPick) (C8.fnBody sPick) (C8.fnScope sPick) .none kV33 dc33 pm33 an33 cd33 ct33), sl33⟩)
    (c33 : PySem.W.codeIn K cd33 "_law_pick" = true)
    (k33 : PySem.W.keepIn K (.ref f33) = true)
    (a34 : PySem.W.nsIn K mainGlobals "_law_table" = some (some (.ref f34)))
    (l34 : K.lookup f34 = some ⟨oc34, od34, .func (PySem.W.fnOf "_law_table" "_law_table" (C8.fnArgs sTable) (C8.fnBody sTable) (C8.fnScope sTable) .none kV34 dc34 pm34 an34 cd34 ct34), sl34⟩)
    (c34 : PySem.W.codeIn K cd34 "_law_table" = true)
    (k34 : PySem.W.keepIn K (.ref f34) = true)
    (a35 : PySem.W.nsIn K mainGlobals "_law_plain" = some (some (.ref f35)))
    (l35 : K.lookup f35 = some ⟨oc35, od35, .func (PySem.W.fnOf "_law_plain" "_law_plain" (C8.fnArgs sPlain) (C8.fnBody sPlain) (C8.fnScope sPlain) .none kV35 dc35 pm35 an35 cd35 ct35), sl35⟩)
    (c35 : PySem.W.codeIn K cd35 "_law_plain" = true)
    (k35 : PySem.W.keepIn K (.ref f35) = true)
    (a36 : PySem.W.nsIn K mainGlobals "_law_rules" = some (some (.ref f36)))
    (l36 : K.lookup f36 = some ⟨oc36, od36, .func (PySem.W.fnOf "_law_rules" "_law_rules" (C8.fnArgs sRules) (C8.fnBody sRules) (C8.fnScope sRules) .none kV36 dc36 pm36 an36 cd36 ct36), sl36⟩)
    (c36 : PySem.W.codeIn K cd36 "_law_rules" = true)
    (k36 : PySem.W.keepIn K (.ref f36) = true)
    (a37 : PySem.W.nsIn K mainGlobals "_law_made" = some (some (.ref f37)))
    (l37 : K.lookup f37 = some ⟨oc37, od37, .func (PySem.W.fnOf "_law_made" "_law_made" (C8.fnArgs sMade) (C8.fnBody sMade) (C8.fnScope sMade) .none kV37 dc37 pm37 an37 cd37 ct37), sl37⟩)
    (c37 : PySem.W.codeIn K cd37 "_law_made" = true)
    (k37 : PySem.W.keepIn K (.ref f37) = true)
    (a38 : PySem.W.nsIn K mainGlobals "law" = some (some (.ref f38)))
    (l38 : K.lookup f38 = some ⟨oc38, od38, .func (PySem.W.fnOf "law" "law" (C8.fnArgs sLaw) (C8.fnBody sLaw) (C8.fnScope sLaw) .none kV38 dc38 pm38 an38 cd38 ct38), sl38⟩)
    (c38 : PySem.W.codeIn K cd38 "law" = true)
    (k38 : PySem.W.keepIn K (.ref f38) = true)
    (a39 : PySem.W.findIn K (.ref CStack) "modules" = some (some (.ref p39)))
    (g39 : PySem.W.specialIn K (.ref p39) "__get__" = some (some (.builtin "property.__get__")))
    (t39 : PySem.W.takesIn K (.ref p39) = some true)
    (r39 : PySem.W.recIn K p39 "property" = some (.ref f39 :: rs39))
    (l39 : K.lookup f39 = some ⟨oc39, od39, .func (PySem.W.fnOf "modules" "Stack.modules" (C8.fnArgs sModules) (C8.fnBody sModules) (C8.fnScope sModules) .none kV39 dc39 pm39 an39 cd39 ct39), sl39⟩)
    (c39 : PySem.W.codeIn K cd39 "Stack.modules" = true)
    (a40 : PySem.W.findIn K (.ref CSuspects) "remaining" = some (some (.ref p40)))
    (g40 : PySem.W.specialIn K (.ref p40) "__get__" = some (some (.builtin "property.__get__")))
    (t40 : PySem.W.takesIn K (.ref p40) = some true)
    (r40 : PySem.W.recIn K p40 "property" = some (.ref f40 :: rs40))
    (l40 : K.lookup f40 = some ⟨oc40, od40, .func (PySem.W.fnOf "remaining" "Suspects.remaining" (C8.fnArgs sRemaining) (C8.fnBody sRemaining) (C8.fnScope sRemaining) .none kV40 dc40 pm40 an40 cd40 ct40), sl40⟩)
    (c40 : PySem.W.codeIn K cd40 "Suspects.remaining" = true)
    (a41 : PySem.W.findIn K (.ref CSuspects) "history" = some (some (.ref p41)))
    (g41 : PySem.W.specialIn K (.ref p41) "__get__" = some (some (.builtin "property.__get__")))
    (t41 : PySem.W.takesIn K (.ref p41) = some true)
    (r41 : PySem.W.recIn K p41 "property" = some (.ref f41 :: rs41))
    (l41 : K.lookup f41 = some ⟨oc41, od41, .func (PySem.W.fnOf "history" "Suspects.history" (C8.fnArgs sHistory) (C8.fnBody sHistory) (C8.fnScope sHistory) .none kV41 dc41 pm41 an41 cd41 ct41), sl41⟩)
    (c41 : PySem.W.codeIn K cd41 "Suspects.history" = true)
    (bYES : PySem.W.nsIn K mainGlobals "YES" = some (some vYES))
    (qYES : RelV (.str "yes") vYES)
    (bNO : PySem.W.nsIn K mainGlobals "NO" = some (some vNO))
    (qNO : RelV (.str "no") vNO)
    (bSKIP : PySem.W.nsIn K mainGlobals "SKIP" = some (some vSKIP))
    (qSKIP : RelV (.str "skip") vSKIP)
    (bGONE : PySem.W.nsIn K mainGlobals "GONE" = some (some vGONE))
    (qGONE : RelV (.str "gone") vGONE)
    (bOK : PySem.W.nsIn K mainGlobals "OK" = some (some vOK))
    (qOK : RelV (.str "ok") vOK)
    (bBAD : PySem.W.nsIn K mainGlobals "BAD" = some (some vBAD))
    (qBAD : RelV (.str "bad") vBAD)
    (bDIE : PySem.W.nsIn K mainGlobals "DIE" = some (some vDIE))
    (qDIE : RelV (.str "die") vDIE)
    (bDONE : PySem.W.nsIn K mainGlobals "DONE" = some (some vDONE))
    (qDONE : RelV (.str "done") vDONE)
    (bIGNORE : PySem.W.nsIn K mainGlobals "IGNORE" = some (some vIGNORE))
    (qIGNORE : RelV (.str "ignore") vIGNORE)
    (bRESET : PySem.W.nsIn K mainGlobals "RESET" = some (some vRESET))
    (qRESET : RelV (.str "reset") vRESET)
    (bLETTERS : PySem.W.nsIn K mainGlobals "LETTERS" = some (some vLETTERS))
    (qLETTERS : RelV (.str "abcdefghijklmnopqrstuvwxyz") vLETTERS)
    (bIN : PySem.W.nsIn K mainGlobals "IN" = some (some vIN))
    (qIN : RelV (.str "in") vIN)
    (bOUT : PySem.W.nsIn K mainGlobals "OUT" = some (some vOUT))
    (qOUT : RelV (.str "out") vOUT)
    (bMOST_JUMP : PySem.W.nsIn K mainGlobals "MOST_JUMP" = some (some vMOST_JUMP))
    (qMOST_JUMP : RelV (.int 9) vMOST_JUMP)
    (bMOST_LETTERS : PySem.W.nsIn K mainGlobals "MOST_LETTERS" = some (some vMOST_LETTERS))
    (qMOST_LETTERS : RelV (.int 8) vMOST_LETTERS)
    (bMOST_ENTRIES : PySem.W.nsIn K mainGlobals "MOST_ENTRIES" = some (some vMOST_ENTRIES))
    (qMOST_ENTRIES : RelV (.int 12) vMOST_ENTRIES)
    (bMOST_RULES : PySem.W.nsIn K mainGlobals "MOST_RULES" = some (some vMOST_RULES))
    (qMOST_RULES : RelV (.int 12) vMOST_RULES)
    (bMOST_MODULES_stacks : PySem.W.nsIn K mainGlobals "MOST_MODULES_stacks" = some (some vMOST_MODULES_stacks))
    (qMOST_MODULES_stacks : RelV (.int 6) vMOST_MODULES_stacks)
    (bMOST_DEPTH : PySem.W.nsIn K mainGlobals "MOST_DEPTH" = some (some vMOST_DEPTH))
    (qMOST_DEPTH : RelV (.int 3) vMOST_DEPTH)
    (bMOST_STACKS : PySem.W.nsIn K mainGlobals "MOST_STACKS" = some (some vMOST_STACKS))
    (qMOST_STACKS : RelV (.int 6) vMOST_STACKS)
    (bMOST_MODULES_suspects : PySem.W.nsIn K mainGlobals "MOST_MODULES_suspects" = some (some vMOST_MODULES_suspects))
    (qMOST_MODULES_suspects : RelV (.int 5) vMOST_MODULES_suspects)
    (bRESULTS : PySem.W.nsIn K mainGlobals "RESULTS" = some (some (.ref tRESULTS)))
    (wRESULTS : K.lookup tRESULTS = some oRESULTS)
    (qRESULTS : TupO oRESULTS [.str "yes", .str "no", .str "skip", .str "gone"])
    (bACTIONS : PySem.W.nsIn K mainGlobals "ACTIONS" = some (some (.ref tACTIONS)))
    (wACTIONS : K.lookup tACTIONS = some oACTIONS)
    (qACTIONS : TupO oACTIONS [.str "ok", .str "bad", .str "die", .str "done", .str "ignore", .str "reset"])
    (bNONE : PySem.W.nsIn K mainGlobals "NONE" = some (some (.ref tNONE)))
    (wNONE : K.lookup tNONE = some oNONE)
    (qNONE : TupO oNONE [.str "none", .non])
    (bGOOD : PySem.W.nsIn K mainGlobals "GOOD" = some (some (.ref tGOOD)))
    (wGOOD : K.lookup tGOOD = some oGOOD)
    (qGOOD : TupO oGOOD [.str "good", .non])
    (z_len : PySem.W.nsIn K mainGlobals "len" = some none)
    (z_isinstance : PySem.W.nsIn K mainGlobals "isinstance" = some none)
    (z_int : PySem.W.nsIn K mainGlobals "int" = some none)
    (z_str : PySem.W.nsIn K mainGlobals "str" = some none)
    (z_bool : PySem.W.nsIn K mainGlobals "bool" = some none)
    (z_tuple : PySem.W.nsIn K mainGlobals "tuple" = some none)
    (z_list : PySem.W.nsIn K mainGlobals "list" = some none)
    (z_set : PySem.W.nsIn K mainGlobals "set" = some none)
    (z_sorted : PySem.W.nsIn K mainGlobals "sorted" = some none)
    (z_range : PySem.W.nsIn K mainGlobals "range" = some none)
    (z_enumerate : PySem.W.nsIn K mainGlobals "enumerate" = some none)
    (z_zip : PySem.W.nsIn K mainGlobals "zip" = some none)
    (z_max : PySem.W.nsIn K mainGlobals "max" = some none)
    (z_min : PySem.W.nsIn K mainGlobals "min" = some none)
    (z_all : PySem.W.nsIn K mainGlobals "all" = some none)
    (z_dict : PySem.W.nsIn K mainGlobals "dict" = some none)
    : ∃ fd : FuncData, (∀ (s : Shared) (v : Value), BindsTo s fd ⟨[v], []⟩ [("_law_script", v)]) ∧ ∀ base : Heap, K.In base → base.Ns mainGlobals mg → FnOk l.prog w K mg base C8.CX0 30 fa fd ["_law_script"] (spLaw K) := by
  have e := hfa.symm.trans (PySem.W.mg_of X G a38)
  cases e
  have T : Tx K mg ⟨CRule, CStack, CRun, CSuspects, tRESULTS, tACTIONS, tNONE, tGOOD⟩ := {
    kRule := ⟨pgRule, hdRule, poRule, saRule⟩
    gRule := PySem.W.mg_of X G aRule
    nRule_asks := nRule_asks
    nRule_acts := nRule_acts
    kStack := ⟨pgStack, hdStack, poStack, saStack⟩
    gStack := PySem.W.mg_of X G aStack
    nStack_parts := nStack_parts
    nStack_steps := nStack_steps
    nStack_names := nStack_names
    nStack_depth := nStack_depth
    kRun := ⟨pgRun, hdRun, poRun, saRun⟩
    gRun := PySem.W.mg_of X G aRun
    nRun_told := nRun_told
    nRun_asked_rules := nRun_asked_rules
    nRun_mark := nRun_mark
    kSuspects := ⟨pgSuspects, hdSuspects, poSuspects, saSuspects⟩
    gSuspects := PySem.W.mg_of X G aSuspects
    nSuspects_all_names := nSuspects_all_names
    nSuspects_all_rows := nSuspects_all_rows
    nSuspects_led_words := nSuspects_led_words
    nSuspects_left := nSuspects_left
    nSuspects_facts := nSuspects_facts
    iRule := ⟨⟨pgRule, hdRule, poRule, saRule⟩, xaRule, xhn, xtk, xmRule, kit_self⟩
    iStack := ⟨⟨pgStack, hdStack, poStack, saStack⟩, xaStack, xhn, xtk, xmStack, kit_self⟩
    ruleNotStack := kit_not rn1 rn2 rn3 rn4 a6
    stackSelf := ssf
    dIsNumber := defB_of (PySem.W.mg_of X G a1) l1 c1 k1 (fun _ _ _ _ _ _ us hl => match us, hl with | [_, _, _], _ => rfl)
    dIsWord := defB_of (PySem.W.mg_of X G a2) l2 c2 k2 (fun _ _ _ _ _ _ us hl => match us, hl with | [_], _ => rfl)
    dIsAction := defB_of (PySem.W.mg_of X G a3) l3 c3 k3 (fun _ _ _ _ _ _ us hl => match us, hl with | [_], _ => rfl)
    dTableOf := defB_of (PySem.W.mg_of X G a4) l4 c4 k4 (fun _ _ _ _ _ _ us hl => match us, hl with | [_], _ => rfl)
    dRuleInit := makB_of mkRule kcRule a5 i5 l5 c5 (fun _ _ _ _ _ _ us hl => match us, hl with | [_, _, _], _ => rfl)
    dActionFor := metB_of a6 i6 l6 c6 k6 (fun _ _ _ _ _ _ us hl => match us, hl with | [_, _], _ => rfl)
    dStackInit := ⟨f7, _, ⟨mkStack, a7, i7, kcStack⟩, ⟨⟨_, _, _, _, _, _, _, _, _, _, rfl, l7, c7⟩⟩, fun us rest hl => match us, hl, rest with | [_], _, [] => rfl | [_], _, _ :: _ => rfl⟩
    dStackAdd := metB_of a8 i8 l8 c8 k8 (fun _ _ _ _ _ _ us hl => match us, hl with | [_, _], _ => rfl)
    dWithout := metB_of a9 i9 l9 c9 k9 (fun _ _ _ _ _ _ us hl => match us, hl with | [_, _], _ => rfl)
    dStepsOf := defB_of (PySem.W.mg_of X G a10) l10 c10 k10 (fun _ _ _ _ _ _ us hl => match us, hl with | [_], _ => rfl)
    dFirstsOf := defB_of (PySem.W.mg_of X G a11) l11 c11 k11 (fun _ _ _ _ _ _ us hl => match us, hl with | [_, _], _ => rfl)
    dKept := defB_of (PySem.W.mg_of X G a12) l12 c12 k12 (fun _ _ _ _ _ _ us hl => match us, hl with | [_, _, _], _ => rfl)
    dRunInit := makB_of mkRun kcRun a13 i13 l13 c13 (fun _ _ _ _ _ _ us hl => match us, hl with | [_, _, _], _ => rfl)
    dEnded := metB_of a14 i14 l14 c14 k14 (fun _ _ _ _ _ _ us hl => match us, hl with | [_, _, _, _], _ => rfl)
    dOutcome := metB_of a15 i15 l15 c15 k15 (fun _ _ _ _ _ _ us hl => match us, hl with | [_], _ => rfl)
    dMarked := defB_of (PySem.W.mg_of X G a16) l16 c16 k16 (fun _ _ _ _ _ _ us hl => match us, hl with | [_, _, _, _], _ => rfl)
    dNeedAnswers := defB_of (PySem.W.mg_of X G a17) l17 c17 k17 (fun _ _ _ _ _ _ us hl => match us, hl with | [_, _, _], _ => rfl)
    dAllAnswers := defB_of (PySem.W.mg_of X G a18) l18 c18 k18 (fun _ _ _ _ _ _ us hl => match us, hl with | [_], _ => rfl)
    dNeedWord := defB_of (PySem.W.mg_of X G a19) l19 c19 k19 (fun _ _ _ _ _ _ us hl => match us, hl with | [_], _ => rfl)
    dSplits := defB_of (PySem.W.mg_of X G a20) l20 c20 k20 (fun _ _ _ _ _ _ us hl => match us, hl with | [_, _], _ => rfl)
    dSusInit := makB_of mkSuspects kcSuspects a21 i21 l21 c21 (fun _ _ _ _ _ _ us hl => match us, hl with | [_, _], _ => rfl)
    dSee := metB_of a22 i22 l22 c22 k22 (fun _ _ _ _ _ _ us hl => match us, hl with | [_, _, _], _ => rfl)
    dGroups := metB_of a23 i23 l23 c23 k23 (fun _ _ _ _ _ _ us hl => match us, hl with | [_], _ => rfl)
    dBest := metB_of a24 i24 l24 c24 k24 (fun _ _ _ _ _ _ us hl => match us, hl with | [_], _ => rfl)
    dFewest := metB_of a25 i25 l25 c25 k25 (fun _ _ _ _ _ _ us hl => match us, hl with | [_], _ => rfl)
    dBothOut := defB_of (PySem.W.mg_of X G a26) l26 c26 k26 (fun _ _ _ _ _ _ us hl => match us, hl with | [_, _], _ => rfl)
    dFirstDiff := defB_of (PySem.W.mg_of X G a27) l27 c27 k27 (fun _ _ _ _ _ _ us hl => match us, hl with | [_, _], _ => rfl)
    dAlike := defB_of (PySem.W.mg_of X G a28) l28 c28 k28 (fun _ _ _ _ _ _ us hl => match us, hl with | [_, _], _ => rfl)
    dSubsets := defB_of (PySem.W.mg_of X G a29) l29 c29 k29 (fun _ _ _ _ _ _ us hl => match us, hl with | [_, _], _ => rfl)
    dLeastKept := defB_of (PySem.W.mg_of X G a30) l30 c30 k30 (fun _ _ _ _ _ _ us hl => match us, hl with | [_], _ => rfl)
    dLeastStack := defB_of (PySem.W.mg_of X G a31) l31 c31 k31 (fun _ _ _ _ _ _ us hl => match us, hl with | [_], _ => rfl)
    dTaken := defB_of (PySem.W.mg_of X G a32) l32 c32 k32 (fun _ _ _ _ _ _ us hl => match us, hl with | [_, _], _ => rfl)
    dPick := defB_of (PySem.W.mg_of X G a33) l33 c33 k33 (fun _ _ _ _ _ _ us hl => match us, hl with | [_, _], _ => rfl)
    dTable := defB_of (PySem.W.mg_of X G a34) l34 c34 k34 (fun _ _ _ _ _ _ us hl => match us, hl with | [_, _], _ => rfl)
    dPlain := defB_of (PySem.W.mg_of X G a35) l35 c35 k35 (fun _ _ _ _ _ _ us hl => match us, hl with | [_, _, _, _, _], _ => rfl)
    dRules := defB_of (PySem.W.mg_of X G a36) l36 c36 k36 (fun _ _ _ _ _ _ us hl => match us, hl with | [_], _ => rfl)
    dMade := defB_of (PySem.W.mg_of X G a37) l37 c37 k37 (fun _ _ _ _ _ _ us hl => match us, hl with | [_], _ => rfl)
    dLaw := defB_of (PySem.W.mg_of X G a38) l38 c38 k38 (fun _ _ _ _ _ _ us hl => match us, hl with | [_], _ => rfl)
    dModules := prpB_of a39 g39 t39 r39 l39 c39 (fun _ _ _ _ _ _ us hl => match us, hl with | [_], _ => rfl)
    dRemaining := prpB_of a40 g40 t40 r40 l40 c40 (fun _ _ _ _ _ _ us hl => match us, hl with | [_], _ => rfl)
    dHistory := prpB_of a41 g41 t41 r41 l41 c41 (fun _ _ _ _ _ _ us hl => match us, hl with | [_], _ => rfl)
    vYES := ⟨_, PySem.W.mg_of X G bYES, qYES⟩
    vNO := ⟨_, PySem.W.mg_of X G bNO, qNO⟩
    vSKIP := ⟨_, PySem.W.mg_of X G bSKIP, qSKIP⟩
    vGONE := ⟨_, PySem.W.mg_of X G bGONE, qGONE⟩
    vOK := ⟨_, PySem.W.mg_of X G bOK, qOK⟩
    vBAD := ⟨_, PySem.W.mg_of X G bBAD, qBAD⟩
    vDIE := ⟨_, PySem.W.mg_of X G bDIE, qDIE⟩
    vDONE := ⟨_, PySem.W.mg_of X G bDONE, qDONE⟩
    vIGNORE := ⟨_, PySem.W.mg_of X G bIGNORE, qIGNORE⟩
    vRESET := ⟨_, PySem.W.mg_of X G bRESET, qRESET⟩
    vLETTERS := ⟨_, PySem.W.mg_of X G bLETTERS, qLETTERS⟩
    vIN := ⟨_, PySem.W.mg_of X G bIN, qIN⟩
    vOUT := ⟨_, PySem.W.mg_of X G bOUT, qOUT⟩
    vMOST_JUMP := ⟨_, PySem.W.mg_of X G bMOST_JUMP, qMOST_JUMP⟩
    vMOST_LETTERS := ⟨_, PySem.W.mg_of X G bMOST_LETTERS, qMOST_LETTERS⟩
    vMOST_ENTRIES := ⟨_, PySem.W.mg_of X G bMOST_ENTRIES, qMOST_ENTRIES⟩
    vMOST_RULES := ⟨_, PySem.W.mg_of X G bMOST_RULES, qMOST_RULES⟩
    vMOST_MODULES_stacks := ⟨_, PySem.W.mg_of X G bMOST_MODULES_stacks, qMOST_MODULES_stacks⟩
    vMOST_DEPTH := ⟨_, PySem.W.mg_of X G bMOST_DEPTH, qMOST_DEPTH⟩
    vMOST_STACKS := ⟨_, PySem.W.mg_of X G bMOST_STACKS, qMOST_STACKS⟩
    vMOST_MODULES_suspects := ⟨_, PySem.W.mg_of X G bMOST_MODULES_suspects, qMOST_MODULES_suspects⟩
    vRESULTS := tupB_of (PySem.W.mg_of X G bRESULTS) wRESULTS qRESULTS
    vACTIONS := tupB_of (PySem.W.mg_of X G bACTIONS) wACTIONS qACTIONS
    vNONE := tupB_of (PySem.W.mg_of X G bNONE) wNONE qNONE
    vGOOD := tupB_of (PySem.W.mg_of X G bGOOD) wGOOD qGOOD
    b_len := PySem.W.mg_none_of X G z_len
    b_isinstance := PySem.W.mg_none_of X G z_isinstance
    b_int := PySem.W.mg_none_of X G z_int
    b_str := PySem.W.mg_none_of X G z_str
    b_bool := PySem.W.mg_none_of X G z_bool
    b_tuple := PySem.W.mg_none_of X G z_tuple
    b_list := PySem.W.mg_none_of X G z_list
    b_set := PySem.W.mg_none_of X G z_set
    b_sorted := PySem.W.mg_none_of X G z_sorted
    b_range := PySem.W.mg_none_of X G z_range
    b_enumerate := PySem.W.mg_none_of X G z_enumerate
    b_zip := PySem.W.mg_none_of X G z_zip
    b_max := PySem.W.mg_none_of X G z_max
    b_min := PySem.W.mg_none_of X G z_min
    b_all := PySem.W.mg_none_of X G z_all
    b_dict := PySem.W.mg_none_of X G z_dict
  }
  exact ⟨PySem.W.fnOf "law" "law" (C8.fnArgs sLaw) (C8.fnBody sLaw) (C8.fnScope sLaw) .none kV38 dc38 pm38 an38 cd38 ct38, fun s v => .of_eq rfl, fun base _ _ => FnOk.mono (law_fn T ⟨⟨_, _, _, _, _, _, _, _, _, _, rfl, l38, c38⟩⟩) (by decide)⟩
theorem walk {l : PySem.W.OpenLaw} {q : Program} {loose : List Str} {XP : (Str → Option Value) → Heap → Prop} {YP : World → Heap → Prop} {d : DefRec} {K : Params → PySem.W.Frag} (hn : l.most = some 63) (hdf : d.params.defaults = [])
    (hY : ∀ (w : World) (h : Heap), YP w h → (K w.params).In h)
    (F : ∀ (w : World) (mg : Str → Option Value) (fa : Addr) (h : Heap), (K w.params).In h → h.Ns mainGlobals mg → mg d.name = some (.ref fa) →
      ∃ fd : FuncData, (∀ (s : Shared) (u : Value), BindsTo s fd ⟨[u], []⟩ [("_law_script", u)]) ∧ ∀ base : Heap, (K w.params).In base → base.Ns mainGlobals mg → FnOk l.prog w (K w.params) mg base C8.CX0 30 fa fd ["_law_script"] (spLaw (K w.params))) :
    PySem.W.WalkO q loose XP YP l.row.toRowW d [] (fun f vs => PySem.call f vs) :=
  L2.walk_of (n := 63) (k := 30) (x := "_law_script") (CX := fun _ => C8.CX0) (sp := fun w => spLaw (K w.params)) hn (by decide) hdf ⟨rfl, by decide, by decide⟩ hY F (fun _ _ a ns _ _ hS => ⟨a, ns, rfl, hS, fun _ => rfl⟩) fun _ _ _ _ _ z => z
end Kb

open PySem PySem.W PyProof.Rows in
set_option maxRecDepth 100000 in
set_option maxHeartbeats 0 in
open_top hd for PySem.Challenge.rw_loginstacks_k72_whole_suspects_and_least
open PySem PySem.W PyProof.Rows
set_option maxRecDepth 100000 in
set_option maxHeartbeats 0 in
theorem PySem.Challenge.cw_loginstacks_k72_whole_suspects_and_least_holds : PySem.Challenge.rw_loginstacks_k72_whole_suspects_and_least.Holds := by
  refine hd ?_
  k_fill
  refine Kb.walk (l := PySem.Challenge.rw_loginstacks_k72_whole_suspects_and_least) rfl rfl (fun w h Y => PySem.W.kIn_of Y) ?F
  case F =>
    intro w mg fa h KX G hmg
    refine' Kb.all_mk KX G hmg ?aRule ?pgRule ?hdRule ?poRule ?saRule ?mkRule ?kcRule ?nRule_asks ?nRule_acts ?aStack ?pgStack ?hdStack ?poStack ?saStack ?mkStack ?kcStack ?nStack_parts ?nStack_steps ?nStack_names ?nStack_depth ?aRun ?pgRun ?hdRun ?poRun ?saRun ?mkRun ?kcRun ?nRun_told ?nRun_asked_rules ?nRun_mark ?aSuspects ?pgSuspects ?hdSuspects ?poSuspects ?saSuspects ?mkSuspects ?kcSuspects ?nSuspects_all_names ?nSuspects_all_rows ?nSuspects_led_words ?nSuspects_left ?nSuspects_facts ?xhn ?xtk ?xaRule ?xmRule ?xaStack ?xmStack ?rn1 ?rn2 ?rn3 ?rn4 ?ssf ?a1 ?l1 ?c1 ?k1 ?a2 ?l2 ?c2 ?k2 ?a3 ?l3 ?c3 ?k3 ?a4 ?l4 ?c4 ?k4 ?a5 ?i5 ?l5 ?c5 ?a6 ?i6 ?l6 ?c6 ?k6 ?a7 ?i7 ?l7 ?c7 ?a8 ?i8 ?l8 ?c8 ?k8 ?a9 ?i9 ?l9 ?c9 ?k9 ?a10 ?l10 ?c10 ?k10 ?a11 ?l11 ?c11 ?k11 ?a12 ?l12 ?c12 ?k12 ?a13 ?i13 ?l13 ?c13 ?a14 ?i14 ?l14 ?c14 ?k14 ?a15 ?i15 ?l15 ?c15 ?k15 ?a16 ?l16 ?c16 ?k16 ?a17 ?l17 ?c17 ?k17 ?a18 ?l18 ?c18 ?k18 ?a19 ?l19 ?c19 ?k19 ?a20 ?l20 ?c20 ?k20 ?a21 ?i21 ?l21 ?c21 ?a22 ?i22 ?l22 ?c22 ?k22 ?a23 ?i23 ?l23 ?c23 ?k23 ?a24 ?i24 ?l24 ?c24 ?k24 ?a25 ?i25 ?l25 ?c25 ?k25 ?a26 ?l26 ?c26 ?k26 ?a27 ?l27 ?c27 ?k27 ?a28 ?l28 ?c28 ?k28 ?a29 ?l29 ?c29 ?k29 ?a30 ?l30 ?c30 ?k30 ?a31 ?l31 ?c31 ?k31 ?a32 ?l32 ?c32 ?k32 ?a33 ?l33 ?c33 ?k33 ?a34 ?l34 ?c34 ?k34 ?a35 ?l35 ?c35 ?k35 ?a36 ?l36 ?c36 ?k36 ?a37 ?l37 ?c37 ?k37 ?a38 ?l38 ?c38 ?k38 ?a39 ?g39 ?t39 ?r39 ?l39 ?c39 ?a40 ?g40 ?t40 ?r40 ?l40 ?c40 ?a41 ?g41 ?t41 ?r41 ?l41 ?c41 ?bYES ?qYES ?bNO ?qNO ?bSKIP ?qSKIP ?bGONE ?qGONE ?bOK ?qOK ?bBAD ?qBAD ?bDIE ?qDIE ?bDONE ?qDONE ?bIGNORE ?qIGNORE ?bRESET ?qRESET ?bLETTERS ?qLETTERS ?bIN ?qIN ?bOUT ?qOUT ?bMOST_JUMP ?qMOST_JUMP ?bMOST_LETTERS ?qMOST_LETTERS ?bMOST_ENTRIES ?qMOST_ENTRIES ?bMOST_RULES ?qMOST_RULES ?bMOST_MODULES_stacks ?qMOST_MODULES_stacks ?bMOST_DEPTH ?qMOST_DEPTH ?bMOST_STACKS ?qMOST_STACKS ?bMOST_MODULES_suspects ?qMOST_MODULES_suspects ?bRESULTS ?wRESULTS ?qRESULTS ?bACTIONS ?wACTIONS ?qACTIONS ?bNONE ?wNONE ?qNONE ?bGOOD ?wGOOD ?qGOOD ?z_len ?z_isinstance ?z_int ?z_str ?z_bool ?z_tuple ?z_list ?z_set ?z_sorted ?z_range ?z_enumerate ?z_zip ?z_max ?z_min ?z_all ?z_dict
    (case aRule => k_is)
    (case pgRule => k_is)
    (case hdRule => k_is)
    (case poRule => k_is)
    (case saRule => k_is)
    (case mkRule => k_is)
    (case kcRule => k_is)
    (case nRule_asks => k_is)
    (case nRule_acts => k_is)
    (case aStack => k_is)
    (case pgStack => k_is)
    (case hdStack => k_is)
    (case poStack => k_is)
    (case saStack => k_is)
    (case mkStack => k_is)
    (case kcStack => k_is)
    (case nStack_parts => k_is)
    (case nStack_steps => k_is)
    (case nStack_names => k_is)
    (case nStack_depth => k_is)
    (case aRun => k_is)
    (case pgRun => k_is)
    (case hdRun => k_is)
    (case poRun => k_is)
    (case saRun => k_is)
    (case mkRun => k_is)
    (case kcRun => k_is)
    (case nRun_told => k_is)
    (case nRun_asked_rules => k_is)
    (case nRun_mark => k_is)
    (case aSuspects => k_is)
    (case pgSuspects => k_is)
    (case hdSuspects => k_is)
    (case poSuspects => k_is)
    (case saSuspects => k_is)
    (case mkSuspects => k_is)
    (case kcSuspects => k_is)
    (case nSuspects_all_names => k_is)
    (case nSuspects_all_rows => k_is)
    (case nSuspects_led_words => k_is)
    (case nSuspects_left => k_is)
    (case nSuspects_facts => k_is)
    (case xhn => k_is)
    (case xtk => k_is)
    (case xaRule => k_is)
    (case xmRule => k_is)
    (case xaStack => k_is)
    (case xmStack => k_is)
    (case rn1 => k_is)
    (case rn2 => k_is)
    (case rn3 => k_is)
    (case rn4 => k_is)
    (case ssf => k_is)
    (case a1 => k_is)
    (case l1 => k_is)
    (case c1 => k_is)
    (case k1 => k_is)
    (case a2 => k_is)
    (case l2 => k_is)
    (case c2 => k_is)
    (case k2 => k_is)
    (case a3 => k_is)
    (case l3 => k_is)
    (case c3 => k_is)
    (case k3 => k_is)
    (case a4 => k_is)
    (case l4 => k_is)
    (case c4 => k_is)
    (case k4 => k_is)
    (case a5 => k_is)
    (case i5 => k_is)
    (case l5 => k_is)
    (case c5 => k_is)
    (case a6 => k_is)
    (case i6 => k_is)
    (case l6 => k_is)
    (case c6 => k_is)
    (case k6 => k_is)
    (case a7 => k_is)
    (case i7 => k_is)
    (case l7 => k_is)
    (case c7 => k_is)
    (case a8 => k_is)
    (case i8 => k_is)
    (case l8 => k_is)
    (case c8 => k_is)
    (case k8 => k_is)
    (case a9 => k_is)
    (case i9 => k_is)
    (case l9 => k_is)
    (case c9 => k_is)
    (case k9 => k_is)
    (case a10 => k_is)
    (case l10 => k_is)
    (case c10 => k_is)
    (case k10 => k_is)
    (case a11 => k_is)
    (case l11 => k_is)
    (case c11 => k_is)
    (case k11 => k_is)
    (case a12 => k_is)
    (case l12 => k_is)
    (case c12 => k_is)
    (case k12 => k_is)
    (case a13 => k_is)
    (case i13 => k_is)
    (case l13 => k_is)
    (case c13 => k_is)
    (case a14 => k_is)
    (case i14 => k_is)
    (case l14 => k_is)
    (case c14 => k_is)
    (case k14 => k_is)
    (case a15 => k_is)
    (case i15 => k_is)
    (case l15 => k_is)
    (case c15 => k_is)
    (case k15 => k_is)
    (case a16 => k_is)
    (case l16 => k_is)
    (case c16 => k_is)
    (case k16 => k_is)
    (case a17 => k_is)
    (case l17 => k_is)
    (case c17 => k_is)
    (case k17 => k_is)
    (case a18 => k_is)
    (case l18 => k_is)
    (case c18 => k_is)
    (case k18 => k_is)
    (case a19 => k_is)
    (case l19 => k_is)
    (case c19 => k_is)
    (case k19 => k_is)
    (case a20 => k_is)
    (case l20 => k_is)
    (case c20 => k_is)
    (case k20 => k_is)
    (case a21 => k_is)
    (case i21 => k_is)
    (case l21 => k_is)
    (case c21 => k_is)
    (case a22 => k_is)
    (case i22 => k_is)
    (case l22 => k_is)
    (case c22 => k_is)
    (case k22 => k_is)
    (case a23 => k_is)
    (case i23 => k_is)
    (case l23 => k_is)
    (case c23 => k_is)
    (case k23 => k_is)
    (case a24 => k_is)
    (case i24 => k_is)
    (case l24 => k_is)
    (case c24 => k_is)
    (case k24 => k_is)
    (case a25 => k_is)
    (case i25 => k_is)
    (case l25 => k_is)
    (case c25 => k_is)
    (case k25 => k_is)
    (case a26 => k_is)
    (case l26 => k_is)
    (case c26 => k_is)
    (case k26 => k_is)
    (case a27 => k_is)
    (case l27 => k_is)
    (case c27 => k_is)
    (case k27 => k_is)
    (case a28 => k_is)
    (case l28 => k_is)
    (case c28 => k_is)
    (case k28 => k_is)
    (case a29 => k_is)
    (case l29 => k_is)
    (case c29 => k_is)
    (case k29 => k_is)
    (case a30 => k_is)
    (case l30 => k_is)
    (case c30 => k_is)
    (case k30 => k_is)
    (case a31 => k_is)
    (case l31 => k_is)
    (case c31 => k_is)
    (case k31 => k_is)
    (case a32 => k_is)
    (case l32 => k_is)
    (case c32 => k_is)
    (case k32 => k_is)
    (case a33 => k_is)
    (case l33 => k_is)
    (case c33 => k_is)
    (case k33 => k_is)
    (case a34 => k_is)
    (case l34 => k_is)
    (case c34 => k_is)
    (case k34 => k_is)
    (case a35 => k_is)
    (case l35 => k_is)
    (case c35 => k_is)
    (case k35 => k_is)
    (case a36 => k_is)
    (case l36 => k_is)
    (case c36 => k_is)
    (case k36 => k_is)
    (case a37 => k_is)
    (case l37 => k_is)
    (case c37 => k_is)
    (case k37 => k_is)
    (case a38 => k_is)
    (case l38 => k_is)
    (case c38 => k_is)
    (case k38 => k_is)
    (case a39 => k_is)
    (case g39 => k_is)
    (case t39 => k_is)
    (case r39 => k_is)
    (case l39 => k_is)
    (case c39 => k_is)
    (case a40 => k_is)
    (case g40 => k_is)
    (case t40 => k_is)
    (case r40 => k_is)
    (case l40 => k_is)
    (case c40 => k_is)
    (case a41 => k_is)
    (case g41 => k_is)
    (case t41 => k_is)
    (case r41 => k_is)
    (case l41 => k_is)
    (case c41 => k_is)
    (case bYES => k_is)
    (case qYES => exact ⟨_, rfl⟩)
    (case bNO => k_is)
    (case qNO => exact ⟨_, rfl⟩)
    (case bSKIP => k_is)
    (case qSKIP => exact ⟨_, rfl⟩)
    (case bGONE => k_is)
    (case qGONE => exact ⟨_, rfl⟩)
    (case bOK => k_is)
    (case qOK => exact ⟨_, rfl⟩)
    (case bBAD => k_is)
    (case qBAD => exact ⟨_, rfl⟩)
    (case bDIE => k_is)
    (case qDIE => exact ⟨_, rfl⟩)
    (case bDONE => k_is)
    (case qDONE => exact ⟨_, rfl⟩)
    (case bIGNORE => k_is)
    (case qIGNORE => exact ⟨_, rfl⟩)
    (case bRESET => k_is)
    (case qRESET => exact ⟨_, rfl⟩)
    (case bLETTERS => k_is)
    (case qLETTERS => exact ⟨_, rfl⟩)
    (case bIN => k_is)
    (case qIN => exact ⟨_, rfl⟩)
    (case bOUT => k_is)
    (case qOUT => exact ⟨_, rfl⟩)
    (case bMOST_JUMP => k_is)
    (case qMOST_JUMP => exact ⟨_, rfl⟩)
    (case bMOST_LETTERS => k_is)
    (case qMOST_LETTERS => exact ⟨_, rfl⟩)
    (case bMOST_ENTRIES => k_is)
    (case qMOST_ENTRIES => exact ⟨_, rfl⟩)
    (case bMOST_RULES => k_is)
    (case qMOST_RULES => exact ⟨_, rfl⟩)
    (case bMOST_MODULES_stacks => k_is)
    (case qMOST_MODULES_stacks => exact ⟨_, rfl⟩)
    (case bMOST_DEPTH => k_is)
    (case qMOST_DEPTH => exact ⟨_, rfl⟩)
    (case bMOST_STACKS => k_is)
    (case qMOST_STACKS => exact ⟨_, rfl⟩)
    (case bMOST_MODULES_suspects => k_is)
    (case qMOST_MODULES_suspects => exact ⟨_, rfl⟩)
    (case bRESULTS => k_is)
    (case wRESULTS => k_is)
    (case qRESULTS => exact ⟨rfl, rfl, _, _, rfl, by decide, .cons ⟨_, rfl⟩ (.cons ⟨_, rfl⟩ (.cons ⟨_, rfl⟩ (.cons ⟨_, rfl⟩ (.nil))))⟩)
    (case bACTIONS => k_is)
    (case wACTIONS => k_is)
    (case qACTIONS => exact ⟨rfl, rfl, _, _, rfl, by decide, .cons ⟨_, rfl⟩ (.cons ⟨_, rfl⟩ (.cons ⟨_, rfl⟩ (.cons ⟨_, rfl⟩ (.cons ⟨_, rfl⟩ (.cons ⟨_, rfl⟩ (.nil))))))⟩)
    (case bNONE => k_is)
    (case wNONE => k_is)
    (case qNONE => exact ⟨rfl, rfl, _, _, rfl, by decide, .cons ⟨_, rfl⟩ (.cons rfl (.nil))⟩)
    (case bGOOD => k_is)
    (case wGOOD => k_is)
    (case qGOOD => exact ⟨rfl, rfl, _, _, rfl, by decide, .cons ⟨_, rfl⟩ (.cons rfl (.nil))⟩)
    (case z_len => k_is)
    (case z_isinstance => k_is)
    (case z_int => k_is)
    (case z_str => k_is)
    (case z_bool => k_is)
    (case z_tuple => k_is)
    (case z_list => k_is)
    (case z_set => k_is)
    (case z_sorted => k_is)
    (case z_range => k_is)
    (case z_enumerate => k_is)
    (case z_zip => k_is)
    (case z_max => k_is)
    (case z_min => k_is)
    (case z_all => k_is)
    (case z_dict => k_is)
