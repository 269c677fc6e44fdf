import PyProof.Rows.All
import Wide.All
import OpenK.AllK
import Wide.FinOn
import KE.KStateDown
import HandS.ForMost
import HandS.Zip
import HandS.Walk
import HandS.IsInst
import HandS.Property
import HandS.Star
import HandS.IterNext
import HandS.IterVal
import HandS.Deep
import HandS.TupSets
import HandS.TupAny
import HandS.Conv
import HandS.Defaults
import HandS.Strs
import HandS.SetFor
import HandS.OwnEq
import HandS.Head0
import HandS.Head1
import HandS.Head2
import HandS.HeadEnd
import HandS.HeadHook1
import HandS.HeadHook2
import KE.KSuperObj
import KE.SortData
import PyProof.SeqIndex
import HandS.Style
import KE.KSuper
import HandS.ClsMeth
import KE.KDictZip
import KE.KTurns
import PySem.Challenge.RW_rightmarks_k40_whole_turned_rules
set_option Elab.async false
set_option linter.all false
set_option maxRecDepth 100000
set_option maxHeartbeats 0
/-! Rightmarks k40: what all the files lean on. -/
namespace RM
open PySem PySem.Spec PyProof.Rows L2
/-! ### the text by places -/
def top (i : Nat) : Stmt := PySem.Challenge.pw_rightmarks_k40_whole_turned_rules.main.body.getD i (.Pass ⟨0, 0, 0, 0⟩)
/-- a global def as it stands behind the top -/
def DefAt (K : PySem.W.Frag) (mg : Str → Option Value) (x : Str) (st : Stmt) : Prop := ∃ f fd, FunD K x x (defArgs st) (defBody st) (defScope st) [] [] f fd ∧ mg x = some (.ref f)
/-- a global def that may be called -/
structure Cal (P : Program) (w : World) (K : PySem.W.Frag) (mg : Str → Option Value) (base : Heap) (x : Str) (k : Nat) (ps : List Str) (sp : Sp) : Prop where
  ex : ∃ f fd, FnOk P w K mg base CX0 k f fd ps sp ∧ Binds K fd ps [] ∧ PySem.W.keepIn K (.ref f) = true ∧ mg x = some (.ref f)
section
variable {P : Program} {w : World} {K : PySem.W.Frag} {mg : Str → Option Value} {base : Heap}
theorem cal_mk {x : Str} {st : Stmt} {N ps : List Str} {k : Nat} {sp : Sp} (D : DefAt K mg x st) (S : FnScope N ps (defScope st))
    (hb : ∀ (kV doc pm : Value) (an : Option Addr) (cdv ct : Value) (us : List Value), us.length = ps.length → bindArgs (PySem.W.fnOf x x (defArgs st) (defBody st) (defScope st) .none kV doc pm an cdv ct) ⟨us, []⟩ = pure (ps.zip us))
    (len : ∀ vs H Q E, sp vs H Q E → vs.length = ps.length)
    (hbody : ∀ (cdv : Value) (f : Addr) (A : Around) (outer : List Env) (s : Shared) (H : Hp) (vs : List V) (Q : VK) (E : XK), Room k (A.deeper (envOfC x (defScope st) s.heap.objs.size f cdv)) → sp vs H Q E →
      ∃ t, PSs (cxOf CX0 P w K mg base N x (defScope st) f cdv A outer s H E).nox (defBody st) t ∧ t { nx := fun _ H' => Q .non H', rt := Q } (start N vs) H) :
    Cal P w K mg base x (k + 1) ps sp := by
  obtain ⟨f, fd, F, hm⟩ := D
  refine ⟨f, fd, F.ok S len (fun cdv A outer s H vs Q E hr h => ?_), F.bindsN hb, F.kp, hm⟩
  obtain ⟨t, h1, h2⟩ := hbody cdv f A outer s H vs Q E hr h
  exact ⟨t, h1.nox, h2⟩
theorem Cal.mono {x : Str} {k j : Nat} {ps : List Str} {sp : Sp} (c : Cal P w K mg base x k ps sp) (h : k ≤ j) : Cal P w K mg base x j ps sp := by
  obtain ⟨f, fd, F, r⟩ := c.ex
  exact ⟨f, fd, F.mono h, r⟩
end
section
variable {X : Cx}
theorem pe_cal {x : Str} {k : Nat} {ps : List Str} {sp : Sp} {e : Expr} {es : List Expr} {t : TA} {p pos : Pos} (c : Cal X.prog X.w X.K X.mg X.base x k ps sp) (hr : Room k X.A) (ha : PA X (e :: es) t) (hg : Gl X x := by rfl)
    (hdb : (x == ("__debug__" : Str)) = false := by decide) (he : starEach (e :: es) X.env = (false, eval e X.env) :: starEach es X.env := by rfl) (hpl : (backTo pos (starEach es X.env)).any (·.1) = false := by rfl) :
    PE X (.Call (.Name x p) (e :: es) [] pos) (tCall sp [] E0 t) := by
  obtain ⟨f, fd, F, b, kp, hm⟩ := c.ex
  exact pe_call F hr hg hm kp b .nil pass0 ha hdb he hpl
end
/-! ### built-ins that the top leaves alone -/
structure Tx (K : PySem.W.Frag) (mg : Str → Option Value) : Prop where
  isinstance : mg "isinstance" = none
  int : mg "int" = none
  bool : mg "bool" = none
  tuple : mg "tuple" = none
  all : mg "all" = none
  len : mg "len" = none
  abs : mg "abs" = none
  sum : mg "sum" = none
  zip : mg "zip" = none
  list : mg "list" = none
  sorted : mg "sorted" = none
  set : mg "set" = none
  range : mg "range" = none
  iter : mg "iter" = none
  repr : mg "repr" = none
  super : mg "super" = none
theorem ite_t {b : Bool} {A B : Prop} (e : b = true) (h : A) : if b = true then A else B := by rw [if_pos e]; exact h
theorem ite_f {b : Bool} {A B : Prop} (e : b = false) (h : B) : if b = true then A else B := by rw [e]; exact h
/-! ### heaps -/
theorem same_upd {H : Hp} {p : Addr} {o : HO} (h : H p = none) : Same H (L2.upd H p o) := fun a u e => by rw [upd_ne (ne_of_none e h)]; exact e
theorem same_up {H H1 : Hp} {p : Addr} {o : HO} (x : Same H H1) (h : H1 p = none) : Same H (L2.upd H1 p o) := x.trans (same_upd h)
theorem same_sqT {K : PySem.W.Frag} {H H' : Hp} {a : Addr} {xs : List V} (e : Same H H') (h : SqT K H a xs) : SqT K H' a xs := h.ext e
/-- all stands but at D -/
def Kb (D : Addr) (H H' : Hp) : Prop := ∀ b o, H b = some o → b ≠ D → H' b = some o
theorem same_kb {D : Addr} {H H' : Hp} (h : Same H H') : Kb D H H' := fun b o e _ => h b o e
theorem Kb.refl {D : Addr} {H : Hp} : Kb D H H := fun _ _ e _ => e
theorem Kb.trans {D : Addr} {H H1 H2 : Hp} (a : Kb D H H1) (b : Kb D H1 H2) : Kb D H H2 := fun c o e n => b c o (a c o e n) n
theorem Kb.upd {D : Addr} {H : Hp} {o : HO} : Kb D H (L2.upd H D o) := fun b u e n => by rw [upd_ne n]; exact e
/-- behind a new list at D: all that stood stands -/
theorem Kb.same {D : Addr} {H H' : Hp} (h : Kb D H H') (n : H D = none) : Same H H' := fun b o e => h b o e (ne_of_none e n)
theorem tupI_same {K : PySem.W.Frag} {H H' : Hp} {x : V} {ns : List Int} (h : TupI K H x ns) (e : Same H H') : TupI K H' x ns := by
  obtain ⟨t, rfl, q⟩ := h
  exact ⟨t, rfl, q.ext e⟩
/-- a tuple stands where a list changes -/
theorem sqT_kb {K : PySem.W.Frag} {D : Addr} {H H' : Hp} {a : Addr} {xs ys : List V} (h : SqT K H a xs) (e : Kb D H H') (n : H D = some (.lst ys)) : SqT K H' a xs := by
  rcases h with (h | ⟨o, h⟩) | h
  · exact .inl (.inl (e _ _ h (ne_of h n (fun z => nomatch z))))
  · exact .inl (.inr ⟨o, e _ _ h (ne_of h n (fun z => nomatch z))⟩)
  · exact .inr h
theorem tupI_kb {K : PySem.W.Frag} {D : Addr} {H H' : Hp} {x : V} {ns : List Int} {ys : List V} (h : TupI K H x ns) (e : Kb D H H') (n : H D = some (.lst ys)) : TupI K H' x ns := by
  obtain ⟨t, rfl, q⟩ := h
  exact ⟨t, rfl, sqT_kb q e n⟩
/-! ### plain reckoning -/
def dot (xs ys : List Int) : Int := ((xs.zip ys).map fun p => p.1 * p.2).sum
def Sm (n : Nat) (xs : List Int) : Prop := ∀ x ∈ xs, x.natAbs ≤ n
end RM
/-! Rightmarks k40: the reckoning, without the program. -/
namespace RM
open PySem
theorem gcd_step (x y : Int) (hx : 0 ≤ x) (hy : 0 ≤ y) : Int.gcd y (x % y) = Int.gcd x y := by
  obtain ⟨n, rfl⟩ := Int.eq_ofNat_of_zero_le hx
  obtain ⟨m, rfl⟩ := Int.eq_ofNat_of_zero_le hy
  have e : ((n : Int) % (m : Int)) = ((n % m : Nat) : Int) := by omega
  rw [e]
  show Nat.gcd m (n % m) = Nat.gcd n m
  rw [Nat.gcd_comm n m, Nat.gcd_rec m n, Nat.gcd_comm]
/-! ### the tables, the orders -/
def rules : List (Nat × Nat) := [(3, 2), (3, 3), (3, 4), (4, 2), (5, 2)]
def tab (wd m : Nat) : List (List Int) :=
  if wd = 5 then [[1, 0, 0, 0, 0], [1, 0, 0, 1, 1], [1, 1, 1, 0, 0]]
  else if wd = 4 then [[1, 0, 0, 0], [1, 0, 1, 1]]
  else if m = 2 then [[1, 0, 0]]
  else if m = 3 then [[0, 0, 1], [0, 1, 1], [1, 0, 1]]
  else [[0, 0, 1], [0, 1, 1], [1, 0, 1], [1, 1, 2], [1, 2, 1], [1, 3, 2], [2, 1, 1], [2, 2, 1]]
def permsN : Nat → List Nat → List (List Nat)
  | 0, _ => [[]]
  | n + 1, left => (List.range left.length).flatMap fun i => (permsN n (left.eraseIdx i)).map (left.getD i 0 :: ·)
def permsOf (wd : Nat) : List (List Nat) := permsN wd (List.range wd)
/-- the lesser tuple of rests -/
def canon (m : Int) (xs : List Int) : List Int := if HT.lexLt (xs.map (· % m)) (xs.map fun x => -x % m) = true then xs.map (· % m) else xs.map fun x => -x % m
/-- rests moved as the package does, as the law does -/
def placeP (t : List Nat) (r : List Int) : List Int := (List.range r.length).map fun p => r.getD (t.idxOf p) 0
def placeL (wd : Nat) (t : List Nat) (r : List Int) : List Int := (List.range wd).foldl (fun e k => e.set (t.getD k 0) (r.getD k 0)) (List.replicate wd 0)
theorem place_eq : ∀ p ∈ rules, ∀ t ∈ permsOf p.1, ∀ r ∈ tab p.1 p.2, placeL p.1 t r = placeP t r := by decide +kernel
/-! ### ascending lists without doubles -/
def ins (x : List Int) : List (List Int) → List (List Int)
  | [] => [x]
  | y :: ys => if HT.lexLt x y = true then x :: y :: ys else if x = y then y :: ys else y :: ins x ys
def sd (L : List (List Int)) : List (List Int) := L.foldr ins []
def moved (wd m : Nat) (t : List Nat) : List (List Int) := sd ((tab wd m).map fun r => canon m (placeP t r))
/-- whether the turned rule marks -/
def marked (wd m : Nat) (t : List Nat) (x : List Int) : Bool := (tab wd m).contains (canon m (t.map fun k => x.getD k 0))
def resL (m : Nat) : Nat → List (List Int)
  | 0 => [[]]
  | n + 1 => (List.range m).flatMap fun (i : Nat) => (resL m n).map ((i : Int) :: ·)
theorem marks_res : ∀ p ∈ rules, ∀ t ∈ permsOf p.1, ∀ y ∈ resL p.2 p.1, (moved p.1 p.2 t).contains (canon p.2 y) = marked p.1 p.2 t y := by decide +kernel
end RM
/-! Rightmarks k40: the reckoning, without the program; general laws. -/
namespace RM
open PySem
/-! ### the order of lists of ints -/
theorem lexLt_irr : ∀ a : List Int, HT.lexLt a a = false
  | [] => rfl
  | x :: a => by rw [HT.lexLt_cons, if_pos rfl]; exact lexLt_irr a
theorem lexLt_tr : ∀ {a b c : List Int}, HT.lexLt a b = true → HT.lexLt b c = true → HT.lexLt a c = true
  | [], [], _, h, _ => by cases h
  | [], _ :: _, [], _, h => by cases h
  | [], _ :: _, _ :: _, _, _ => rfl
  | _ :: _, [], _, h, _ => by cases h
  | _ :: _, _ :: _, [], _, h => by cases h
  | x :: a, y :: b, z :: c, h1, h2 => by
    rw [HT.lexLt_cons] at h1 h2 ⊢
    by_cases e1 : x = y
    · rw [if_pos e1] at h1
      by_cases e2 : y = z
      · rw [if_pos e2] at h2
        rw [if_pos (e1.trans e2)]
        exact lexLt_tr h1 h2
      · rw [if_neg e2] at h2
        rw [if_neg (fun e => e2 (e1.symm.trans e)), e1]
        exact h2
    · rw [if_neg e1] at h1
      have h1 := of_decide_eq_true h1
      by_cases e2 : y = z
      · rw [← e2, if_neg e1]
        exact decide_eq_true h1
      · rw [if_neg e2] at h2
        have h2 := of_decide_eq_true h2
        rw [if_neg (by omega)]
        exact decide_eq_true (by omega)
theorem lexLt_as {a b : List Int} (h1 : HT.lexLt a b = true) (h2 : HT.lexLt b a = true) : False := by
  have h := lexLt_tr h1 h2
  rw [lexLt_irr] at h
  cases h
theorem lexLt_tri : ∀ (a b : List Int), HT.lexLt a b = true ∨ a = b ∨ HT.lexLt b a = true
  | [], [] => .inr (.inl rfl)
  | [], _ :: _ => .inl rfl
  | _ :: _, [] => .inr (.inr rfl)
  | x :: a, y :: b => by
    rw [HT.lexLt_cons, HT.lexLt_cons]
    by_cases e : x = y
    · subst e
      rw [if_pos rfl, if_pos rfl]
      rcases lexLt_tri a b with h | h | h
      · exact .inl h
      · exact .inr (.inl (by rw [h]))
      · exact .inr (.inr h)
    · rw [if_neg e, if_neg (Ne.symm e)]
      rcases Int.lt_trichotomy x y with h | h | h
      · exact .inl (decide_eq_true h)
      · exact absurd h e
      · exact .inr (.inr (decide_eq_true h))
abbrev Asc (l : List (List Int)) : Prop := l.Pairwise fun a b => HT.lexLt a b = true
theorem asc_unique : ∀ {l k : List (List Int)}, Asc l → Asc k → (∀ x, x ∈ l ↔ x ∈ k) → l = k
  | [], [], _, _, _ => rfl
  | [], b :: k, _, _, h => by simpa using (h b).mpr (List.mem_cons_self ..)
  | a :: l, [], _, _, h => by simpa using (h a).mp (List.mem_cons_self ..)
  | a :: l, b :: k, h1, h2, h => by
    obtain ⟨p1, q1⟩ := List.pairwise_cons.mp h1
    obtain ⟨p2, q2⟩ := List.pairwise_cons.mp h2
    have e : a = b := by
      rcases List.mem_cons.mp ((h a).mp (List.mem_cons_self ..)) with e | m
      · exact e
      · rcases List.mem_cons.mp ((h b).mpr (List.mem_cons_self ..)) with e | m'
        · exact e.symm
        · exact (lexLt_as (p1 b m') (p2 a m)).elim
    subst e
    have hne : ∀ x, x ∈ l → x ≠ a := fun x m e => by
      have := p1 x m
      rw [e, lexLt_irr] at this
      cases this
    have hne2 : ∀ x, x ∈ k → x ≠ a := fun x m e => by
      have := p2 x m
      rw [e, lexLt_irr] at this
      cases this
    rw [asc_unique q1 q2 fun x => ⟨fun m => (List.mem_cons.mp ((h x).mp (List.mem_cons_of_mem _ m))).resolve_left (hne x m), fun m => (List.mem_cons.mp ((h x).mpr (List.mem_cons_of_mem _ m))).resolve_left (hne2 x m)⟩]
theorem mem_ins (x : List Int) : ∀ (l : List (List Int)) (y : List Int), y ∈ ins x l ↔ y = x ∨ y ∈ l
  | [], y => by simp [ins]
  | z :: l, y => by
    unfold ins
    split
    · simp
    · split
      · rename_i h; subst h; simp
      · have ih := mem_ins x l y
        simp only [List.mem_cons, ih]
        constructor
        · rintro (h | h | h)
          · exact .inr (.inl h)
          · exact .inl h
          · exact .inr (.inr h)
        · rintro (h | h | h)
          · exact .inr (.inl h)
          · exact .inl h
          · exact .inr (.inr h)
theorem asc_ins (x : List Int) : ∀ (l : List (List Int)), Asc l → Asc (ins x l)
  | [], _ => by unfold ins; exact List.pairwise_singleton _ _
  | z :: l, h => by
    obtain ⟨p, q⟩ := List.pairwise_cons.mp h
    unfold ins
    split
    · rename_i e
      refine List.pairwise_cons.mpr ⟨fun y m => ?_, h⟩
      rcases List.mem_cons.mp m with m | m
      · rw [m]; exact e
      · exact lexLt_tr e (p y m)
    · rename_i e
      split
      · exact h
      · rename_i e2
        refine List.pairwise_cons.mpr ⟨fun y m => ?_, asc_ins x l q⟩
        rcases (mem_ins x l y).mp m with m | m
        · rw [m]
          rcases lexLt_tri x z with c | c | c
          · exact absurd c e
          · exact absurd c e2
          · exact c
        · exact p y m
theorem mem_sd : ∀ (L : List (List Int)) (y : List Int), y ∈ sd L ↔ y ∈ L
  | [], y => by simp [sd]
  | x :: L, y => by
    show y ∈ ins x (sd L) ↔ _
    rw [mem_ins, mem_sd L y, List.mem_cons]
theorem asc_sd : ∀ (L : List (List Int)), Asc (sd L)
  | [] => List.Pairwise.nil
  | x :: L => asc_ins x (sd L) (asc_sd L)
/-! ### what the kit's sort says -/
theorem code_lex {B : Int} : ∀ {a b : List Int}, a.length = b.length → TS.Bd B a → TS.Bd B b → HT.lexLt a b = true → TS.code B a < TS.code B b
  | [], [], _, _, _, h => by cases h
  | [], _ :: _, h, _, _, _ => by cases h
  | _ :: _, [], h, _, _, _ => by cases h
  | x :: a, y :: b, hl, h1, h2, h => by
    have hl' : a.length = b.length := Nat.succ.inj hl
    rw [HT.lexLt_cons] at h
    by_cases e : x = y
    · subst e
      rw [if_pos rfl] at h
      have ih := code_lex hl' h1.tail h2.tail h
      show x * B ^ a.length + TS.code B a < x * B ^ b.length + TS.code B b
      rw [hl']
      omega
    · rw [if_neg e] at h
      exact TS.code_lt hl' h1.tail h2.tail (of_decide_eq_true h)
/-- a list of tuples of one length, in order by the code, without doubles, of the same members: it is sd -/
theorem sd_of {B : Int} {d : Nat} {l L : List (List Int)} (hp : l.Pairwise fun a b => TS.code B a ≤ TS.code B b) (hn : l.Nodup) (hB : ∀ x ∈ L, x.length = d ∧ TS.Bd B x) (hm : ∀ x, x ∈ l ↔ x ∈ L) : l = sd L := by
  refine asc_unique ?_ (asc_sd L) fun x => by rw [mem_sd, hm]
  refine List.Pairwise.imp_of_mem (fun {a b} ha hb h => ?_) (List.pairwise_and_iff.mpr ⟨hp, hn⟩)
  obtain ⟨h1, h2⟩ := h
  obtain ⟨la, ba⟩ := hB a ((hm a).mp ha)
  obtain ⟨lb, bb⟩ := hB b ((hm b).mp hb)
  rcases lexLt_tri a b with c | c | c
  · exact c
  · exact absurd c h2
  · have := code_lex (lb.trans la.symm) bb ba c
    omega
/-! ### rests -/
theorem neg_res (x m : Int) : -(x % m) % m = -x % m := by
  have e : -x = -(x % m) + m * (-(x / m)) := by
    have h := Int.emod_add_mul_ediv x m
    rw [Int.mul_neg]
    generalize m * (x / m) = y at h ⊢
    omega
  rw [e, Int.add_mul_emod_self_left]
theorem canon_res (m : Int) (xs : List Int) : canon m (xs.map (· % m)) = canon m xs := by
  have e1 : (xs.map (· % m)).map (· % m) = xs.map (· % m) := by
    rw [List.map_map]
    exact List.map_congr_left fun x _ => Int.emod_emod_of_dvd x (Int.dvd_refl m)
  have e2 : (xs.map (· % m)).map (fun x => -x % m) = xs.map fun x => -x % m := by
    rw [List.map_map]
    exact List.map_congr_left fun x _ => neg_res x m
  unfold canon
  rw [e1, e2]
theorem canon_length (m : Int) (xs : List Int) : (canon m xs).length = xs.length := by
  unfold canon
  split <;> rw [List.length_map]
theorem canon_bd {m : Int} (hm : 0 < m) (xs : List Int) : TS.Bd m (canon m xs) := by
  intro y hy
  unfold canon at hy
  split at hy
  · obtain ⟨x, _, rfl⟩ := List.mem_map.mp hy
    exact ⟨Int.emod_nonneg _ (by omega), Int.emod_lt_of_pos _ hm⟩
  · obtain ⟨x, _, rfl⟩ := List.mem_map.mp hy
    exact ⟨Int.emod_nonneg _ (by omega), Int.emod_lt_of_pos _ hm⟩
theorem mem_resL {m : Nat} (hm : 0 < m) : ∀ (xs : List Int), xs.map (· % (m : Int)) ∈ resL m xs.length
  | [] => List.mem_singleton.mpr rfl
  | x :: xs => by
    have h0 := Int.emod_nonneg x (show (m : Int) ≠ 0 by omega)
    have h1 := Int.emod_lt_of_pos x (show (0 : Int) < m by omega)
    refine List.mem_flatMap.mpr ⟨(x % (m : Int)).toNat, List.mem_range.mpr (by omega), List.mem_map.mpr ⟨_, mem_resL hm xs, ?_⟩⟩
    rw [List.map_cons, Int.toNat_of_nonneg h0]
theorem getD_res (m : Int) (xs : List Int) (k : Nat) : (xs.map (· % m)).getD k 0 = xs.getD k 0 % m := by
  rw [List.getD_eq_getElem?_getD, List.getD_eq_getElem?_getD, List.getElem?_map]
  cases xs[k]? with
  | none => exact (Int.zero_emod m).symm
  | some x => rfl
theorem marked_res (wd m : Nat) (t : List Nat) (xs : List Int) : marked wd m t (xs.map (· % (m : Int))) = marked wd m t xs := by
  unfold marked
  have e : (t.map fun k => (xs.map (· % (m : Int))).getD k 0) = (t.map fun k => xs.getD k 0).map (· % (m : Int)) := by
    rw [List.map_map]
    exact List.map_congr_left fun k _ => getD_res _ xs k
  rw [e, canon_res]
/-- THE LAW'S HEART: the moved tuples hold a ray's rests exactly if the rule's own hold those of the ray in the other order -/
theorem marks_iff {p : Nat × Nat} (hp : p ∈ rules) {t : List Nat} (ht : t ∈ permsOf p.1) {xs : List Int} (hl : xs.length = p.1) : (moved p.1 p.2 t).contains (canon p.2 xs) = marked p.1 p.2 t xs := by
  have hm : 0 < p.2 := by
    have : ∀ q ∈ rules, 0 < q.2 := by decide
    exact this p hp
  have h := marks_res p hp t ht (xs.map (· % (p.2 : Int))) (by rw [← hl]; exact mem_resL hm xs)
  rw [canon_res, marked_res] at h
  exact h
/-! ### rays -/
def gcdN (xs : List Int) : Nat := xs.foldl (fun g x => Nat.gcd g x.natAbs) 0
def nz (xs : List Int) : List Int := xs.filter fun x => !decide (x = 0)
def isRay (xs : List Int) : Bool := match nz xs with
  | [] => false
  | x :: _ => decide (0 < x) && decide (gcdN xs = 1)
def signOf (xs : List Int) : Int := if 0 < (nz xs).headD 0 then 1 else -1
def made (xs : List Int) : List Int := xs.map fun x => signOf xs * x / (gcdN xs : Int)
theorem fold_gcd (k : Nat) (hk : 0 < k) : ∀ (xs : List Int) (g : Nat), k ∣ g → (∀ x ∈ xs, k ∣ x.natAbs) → (xs.foldl (fun g x => Nat.gcd g (x.natAbs / k)) (g / k)) = (xs.foldl (fun g x => Nat.gcd g x.natAbs) g) / k
  | [], g, _, _ => rfl
  | x :: xs, g, hg, h => by
    have hx := h x (List.mem_cons_self ..)
    show xs.foldl _ (Nat.gcd (g / k) (x.natAbs / k)) = xs.foldl _ (Nat.gcd g x.natAbs) / k
    rw [Nat.gcd_div hg hx]
    exact fold_gcd k hk xs _ (Nat.dvd_gcd hg hx) fun y m => h y (List.mem_cons_of_mem _ m)
theorem fold_dvd : ∀ (xs : List Int) (g : Nat), xs.foldl (fun g x => Nat.gcd g x.natAbs) g ∣ g ∧ ∀ x ∈ xs, xs.foldl (fun g x => Nat.gcd g x.natAbs) g ∣ x.natAbs
  | [], g => ⟨Nat.dvd_refl g, fun x m => absurd m (by simp)⟩
  | x :: xs, g => by
    obtain ⟨h1, h2⟩ := fold_dvd xs (Nat.gcd g x.natAbs)
    refine ⟨Nat.dvd_trans h1 (Nat.gcd_dvd_left _ _), fun y m => ?_⟩
    rcases List.mem_cons.mp m with e | m
    · rw [e]; exact Nat.dvd_trans h1 (Nat.gcd_dvd_right _ _)
    · exact h2 y m
theorem gcdN_dvd {xs : List Int} {x : Int} (h : x ∈ xs) : gcdN xs ∣ x.natAbs := (fold_dvd xs 0).2 x h
theorem gcdN_pos {xs : List Int} (h : nz xs ≠ []) : 0 < gcdN xs := by
  obtain ⟨x, hx⟩ := List.exists_mem_of_ne_nil _ h
  obtain ⟨m, n⟩ := List.mem_filter.mp hx
  have n' : x ≠ 0 := by simpa using n
  exact Nat.pos_of_dvd_of_pos (gcdN_dvd m) (by omega)
theorem sign_abs (xs : List Int) : signOf xs = 1 ∨ signOf xs = -1 := by
  unfold signOf
  split
  · exact .inl rfl
  · exact .inr rfl
theorem made_abs {xs : List Int} (h : nz xs ≠ []) {x : Int} (m : x ∈ xs) : (signOf xs * x / (gcdN xs : Int)).natAbs = x.natAbs / gcdN xs ∧ (signOf xs * x / (gcdN xs : Int)) * (gcdN xs : Int) = signOf xs * x := by
  have hp := gcdN_pos h
  obtain ⟨c, hc⟩ := gcdN_dvd m
  have d : (gcdN xs : Int) ∣ signOf xs * x := by
    rcases sign_abs xs with e | e <;> rw [e]
    · rw [Int.one_mul]; exact Int.ofNat_dvd_left.mpr ⟨c, hc⟩
    · rw [Int.neg_mul, Int.one_mul]; exact Int.dvd_neg.mpr (Int.ofNat_dvd_left.mpr ⟨c, hc⟩)
  have e2 := Int.ediv_mul_cancel d
  refine ⟨?_, e2⟩
  have e3 := congrArg Int.natAbs e2
  rw [Int.natAbs_mul, Int.natAbs_mul] at e3
  have e4 : (signOf xs).natAbs = 1 := by rcases sign_abs xs with e | e <;> rw [e] <;> rfl
  rw [e4, Nat.one_mul] at e3
  have e5 : ((gcdN xs : Int)).natAbs = gcdN xs := rfl
  rw [e5] at e3
  rw [← e3, Nat.mul_div_cancel _ hp]
theorem made_gcd {xs : List Int} (h : nz xs ≠ []) : gcdN (made xs) = 1 := by
  have hp := gcdN_pos h
  have e : gcdN (made xs) = (xs.foldl (fun g x => Nat.gcd g (x.natAbs / gcdN xs)) (0 / gcdN xs)) := by
    unfold gcdN made
    rw [List.foldl_map, Nat.zero_div]
    have : ∀ (ys : List Int) (g : Nat), (∀ y ∈ ys, y ∈ xs) → ys.foldl (fun g x => Nat.gcd g (signOf xs * x / (gcdN xs : Int)).natAbs) g = ys.foldl (fun g x => Nat.gcd g (x.natAbs / gcdN xs)) g := by
      intro ys
      induction ys with
      | nil => intro g _; rfl
      | cons y ys ih =>
        intro g hy
        simp only [List.foldl_cons]
        rw [(made_abs h (hy y (List.mem_cons_self ..))).1]
        exact ih _ fun z m => hy z (List.mem_cons_of_mem _ m)
    exact this xs 0 fun _ m => m
  rw [e, fold_gcd (gcdN xs) hp xs 0 (Nat.dvd_zero _) fun x m => gcdN_dvd m]
  exact Nat.div_self hp
theorem made_nz {xs : List Int} (h : nz xs ≠ []) : nz (made xs) = (nz xs).map fun x => signOf xs * x / (gcdN xs : Int) := by
  have hp := gcdN_pos h
  have : ∀ (ys : List Int), (∀ y ∈ ys, y ∈ xs) → nz (ys.map fun x => signOf xs * x / (gcdN xs : Int)) = (nz ys).map fun x => signOf xs * x / (gcdN xs : Int) := by
    intro ys
    induction ys with
    | nil => intro _; rfl
    | cons y ys ih =>
      intro hy
      have ih := ih fun z m => hy z (List.mem_cons_of_mem _ m)
      obtain ⟨_, a2⟩ := made_abs h (hy y (List.mem_cons_self ..))
      unfold nz at ih ⊢
      rw [List.map_cons, List.filter_cons, List.filter_cons, ih]
      by_cases e : y = 0
      · subst e
        have e0 : signOf xs * 0 / (gcdN xs : Int) = 0 := by rw [Int.mul_zero, Int.zero_ediv]
        rw [e0]
        rfl
      · have e0 : ¬ (signOf xs * y / (gcdN xs : Int)) = 0 := by
          intro z
          rw [z, Int.zero_mul] at a2
          rcases sign_abs xs with s | s <;> rw [s] at a2 <;> omega
        rw [if_pos (by simpa using e0), if_pos (by simpa using e), List.map_cons]
  exact this xs fun _ m => m
theorem made_ray {xs : List Int} (h : nz xs ≠ []) : isRay (made xs) = true := by
  have hp := gcdN_pos h
  unfold isRay
  rw [made_nz h]
  cases e : nz xs with
  | nil => exact absurd e h
  | cons y ys =>
    have hy : y ∈ xs := (List.mem_filter.mp (show y ∈ nz xs by rw [e]; exact List.mem_cons_self ..)).1
    have y0 : y ≠ 0 := by simpa using (List.mem_filter.mp (show y ∈ nz xs by rw [e]; exact List.mem_cons_self ..)).2
    obtain ⟨_, a2⟩ := made_abs h hy
    rw [List.map_cons]
    show (decide _ && decide _) = true
    rw [made_gcd h]
    have pos : 0 < signOf xs * y := by
      unfold signOf
      rw [e]
      show 0 < (if 0 < y then (1 : Int) else -1) * y
      split <;> omega
    have : 0 < signOf xs * y / (gcdN xs : Int) := by
      rcases Int.lt_trichotomy 0 (signOf xs * y / (gcdN xs : Int)) with c | c | c
      · exact c
      · rw [← c, Int.zero_mul] at a2; omega
      · have h2 : (signOf xs * y / (gcdN xs : Int)) * (gcdN xs : Int) < 0 := Int.mul_neg_of_neg_of_pos c (by omega)
        omega
    rw [decide_eq_true this]
    rfl
theorem made_small {n : Nat} {xs : List Int} (h : nz xs ≠ []) (s : Sm n xs) : Sm n (made xs) := by
  intro y hy
  obtain ⟨x, m, rfl⟩ := List.mem_map.mp hy
  rw [(made_abs h m).1]
  exact Nat.le_trans (Nat.div_le_self _ _) (s x m)
theorem made_length (xs : List Int) : (made xs).length = xs.length := List.length_map ..
/-- whether a rule is for a ray -/
def ruled (m : Nat) (xs : List Int) : Bool := if m = 4 then [1, 2, 3, 6, 9, 11].contains (dot xs xs % 16) else !decide (dot xs xs % (m : Int) = 0)
end RM
/-! Rightmarks k40: the finite lots. -/
namespace RM
open PySem
def cart (most : Nat) : Nat → List (List Int)
  | 0 => [[]]
  | n + 1 => (cart most n).flatMap fun some => (List.range (2 * most + 1)).map fun (i : Nat) => some ++ [(i : Int) - (most : Int)]
def isBeam (wd : Nat) (x : List Int) : Bool := decide (x.length = wd) && isRay x
def allR (wd most : Nat) : List (List Int) := (cart most wd).filter (isBeam wd)
def axesL (wd : Nat) : List (List Int) := (List.range wd).map fun i => (List.range wd).map fun k => if k = wd - 1 - i then 1 else 0
def pool (wd : Nat) : List (List Int) := if wd < 5 then allR wd (5 - wd) else axesL 5 ++ [[1, 1, 1, 0, 0], [1, 0, 0, 1, 1], [0, 1, -1, 1, 0], [1, -1, 0, 0, 1]]
def framesR (R : List (List Int)) : Nat → List (List (List Int))
  | 0 => R.map ([·])
  | n + 1 => (framesR R n).flatMap fun some => (R.filter fun b => HT.lexLt (some.headD []) b && some.all fun a => decide (dot a b = 0)).map (· :: some)
def poolR (p : Nat × Nat) : List (List Int) := (pool p.1).filter (ruled p.2)
theorem frames_one : ∀ p ∈ rules, ∀ F ∈ framesR (poolR p) (p.1 - 1), ∀ t ∈ permsOf p.1, (F.filter (marked p.1 p.2 t)).length = 1 := by decide +kernel
theorem none_right : ∀ p ∈ rules, ∀ t ∈ permsOf p.1, ∀ a ∈ (poolR p).filter (marked p.1 p.2 t), ∀ b ∈ (poolR p).filter (marked p.1 p.2 t), a = b ∨ dot a b ≠ 0 := by decide +kernel
end RM
/-! Rightmarks k40: repr, and defs that are called where no repr runs. -/
namespace RM
open PySem PySem.Spec PyProof.Rows L2
/-! ### repr of data -/
def isBoolD : PyData → Bool
  | .bool _ => true
  | _ => false
def isDispD : PyData → Bool
  | .list _ => true
  | .tuple _ => true
  | _ => false
theorem hasDict_dp {K : PySem.W.Frag} {H : Hp} : ∀ {v : V} {d : PyData}, Dp K H v d → isDispD d = true → ∃ a, v = .ref a
  | _, _, .lst (a := a) _ _, _ => ⟨a, rfl⟩
  | _, _, .tup (a := a) _ _, _ => ⟨a, rfl⟩
  | _, _, .non, h => by cases h
  | _, _, .bl _, h => by cases h
  | _, _, .int _, h => by cases h
  | _, _, .str _, h => by cases h
/-- what repr asks of data -/
structure Shows (d : PyData) : Prop where
  kind : isBoolD d = true ∨ isDispD d = true
  show_ : d.showable = true
  lay : d.canLay0 = true
  depth : d.depth ≤ 60
  size : d.shown.length ≤ sizeLine
def rRepr (K : PySem.W.Frag) : List V → Hp → VK → Prop := fun xs H Q => ∃ x d, xs = [x] ∧ Dp K H x d ∧ Shows d ∧ Q (.str d.shown) H
theorem call_reprD {X : Cx} (hg : X.A.guards = some []) (hu : X.A.units + 64 < cLine) : CallR X (.builtin "repr") (rRepr X.K) := by
  intro pins s σ H xs us Q I r h
  obtain ⟨x, d, rfl, hd, S, q⟩ := h
  obtain ⟨u, rfl, ru⟩ := vals1 r
  rcases S.kind with k | k
  · cases d with
    | bool b =>
      cases hd
      cases ru
      refine P.repr_of_bool ⟨.str _, H, I.tok _, ⟨_, rfl⟩, ?_⟩
      simpa only [PyData.shown] using q
    | _ => cases k
  · obtain ⟨a, rfl⟩ := hasDict_dp hd k
    obtain ⟨as, rd⟩ := Dp.reads I d _ u hd ru
    cases ru
    have hdp := S.depth
    exact repr_of_reads' rd S.show_ (PyData.noDict_hsm (PyData.hasDict_of_canLay d S.lay)) hg (by omega) (fun _ _ e => e) (fun h' t tk hk => ⟨.str _, H, I.kept (t' := tk) hk, ⟨t, rfl⟩, q⟩) S.size
/-! ### a def that is called where no repr runs -/
structure FnG (P : Program) (w : World) (K : PySem.W.Frag) (mg : Str → Option Value) (base : Heap) (k : Nat) (f : Addr) (fd : FuncData) (ps : List Str) (sp : Sp) : Prop where
  len : ∀ vs H Q E, sp vs H Q E → vs.length = ps.length
  run : ∀ (A : Around), A.guards = some [] → ∀ (outer : List Env) (s : Shared) (H : Hp) (args : Args) (us : List Value) (vs : List V) (Q : VK), Room k A → Env0 P w K mg base A outer s H → BindsTo s fd args (ps.zip us) → Vals vs us → sp vs H Q E0 →
    codeAny (model P w) A (.call (.ref f) args) (CR CX0 outer P w H s Q E0) s
structure CalG (P : Program) (w : World) (K : PySem.W.Frag) (mg : Str → Option Value) (base : Heap) (x : Str) (k : Nat) (ps : List Str) (sp : Sp) : Prop where
  ex : ∃ f fd, FnG P w K mg base k f fd ps sp ∧ Binds K fd ps [] ∧ PySem.W.keepIn K (.ref f) = true ∧ mg x = some (.ref f)
section
variable {P : Program} {w : World} {K : PySem.W.Frag} {mg : Str → Option Value} {base : Heap}
theorem fnG_of {x qual : Str} {st : Stmt} {f : Addr} {fd : FuncData} {N ps : List Str} {k : Nat} {sp : Sp} (F : FunD K x qual (defArgs st) (defBody st) (defScope st) [] [] f fd) (S : FnScope N ps (defScope st))
    (len : ∀ vs H Q E, sp vs H Q E → vs.length = ps.length)
    (hbody : ∀ (cdv : Value) (A : Around), A.guards = some [] → ∀ (outer : List Env) (s : Shared) (H : Hp) (vs : List V) (Q : VK), Room k (A.deeper (envOfC qual (defScope st) s.heap.objs.size f cdv)) → sp vs H Q E0 →
      ∃ t, PSs (cxOf CX0 P w K mg base N qual (defScope st) f cdv A outer s H E0).nox (defBody st) t ∧ t { nx := fun _ H' => Q .non H', rt := Q } (start N vs) H) :
    FnG P w K mg base (k + 1) f fd ps sp := by
  obtain ⟨oc, od, dV, kV, doc, pm, an, cdv, ct, osl, rfl, lk, hcd, _, _⟩ := F.ex
  refine ⟨len, fun A hg outer s H args us vs Q hr e0 hb rv hsp => ?_⟩
  refine StX.run_bnd (G := fun xs H2 => H2 = H ∧ xs = vs) lk hcd S hr e0 (fun A' Ex Q' kk => ?_) fun s2 H2 xs hx hr' => ?_
  · exact hb _ _ _ _ (kk s H vs us e0 Un.refl rfl (fun _ _ z => z) rv (len _ _ _ _ hsp) ⟨rfl, rfl⟩)
  · obtain ⟨rfl, rfl⟩ := hx
    obtain ⟨t, h1, h2⟩ := hbody cdv A hg outer s2 H2 xs Q hr' hsp
    exact ⟨t, h1.nox, h2⟩
theorem calG_mk {x : Str} {st : Stmt} {N ps : List Str} {k : Nat} {sp : Sp} (D : DefAt K mg x st) (S : FnScope N ps (defScope st))
    (hb : ∀ (kV doc pm : Value) (an : Option Addr) (cdv ct : Value) (us : List Value), us.length = ps.length → bindArgs (PySem.W.fnOf x x (defArgs st) (defBody st) (defScope st) .none kV doc pm an cdv ct) ⟨us, []⟩ = pure (ps.zip us))
    (len : ∀ vs H Q E, sp vs H Q E → vs.length = ps.length)
    (hbody : ∀ (cdv : Value) (f : Addr) (A : Around), A.guards = some [] → ∀ (outer : List Env) (s : Shared) (H : Hp) (vs : List V) (Q : VK), Room k (A.deeper (envOfC x (defScope st) s.heap.objs.size f cdv)) → sp vs H Q E0 →
      ∃ t, PSs (cxOf CX0 P w K mg base N x (defScope st) f cdv A outer s H E0).nox (defBody st) t ∧ t { nx := fun _ H' => Q .non H', rt := Q } (start N vs) H) :
    CalG P w K mg base x (k + 1) ps sp := by
  obtain ⟨f, fd, F, hm⟩ := D
  exact ⟨f, fd, fnG_of F S len (fun cdv A hg outer s H vs Q hr h => hbody cdv f A hg outer s H vs Q hr h), F.bindsN hb, F.kp, hm⟩
end
section
variable {X : Cx}
theorem run_fnG {k : Nat} {f : Addr} {fd : FuncData} {ps : List Str} {sp : Sp} {pins : List (Addr × Obj)} {σ : L2.St} {H : Hp} {s : Shared} {Q : VK} {us : List Value} {vs : List V} (F : FnG X.prog X.w X.K X.mg X.base k f fd ps sp) (hg : X.A.guards = some []) (hr : Room k X.A)
    (hb : Binds X.K fd ps []) (I : Inv X pins σ H s) (r : Vals vs us) (h : sp vs H Q E0) : wpAny (model X.prog X.w) X.A (call (.ref f) us) (EP X pins σ Q) X.xe s := by
  have hl : us.length = ps.length := by rw [← r.length]; exact F.len _ _ _ _ h
  have hb' := hb s us I.kIn (by rw [List.append_nil]; exact hl)
  rw [List.append_nil] at hb'
  refine wpAny_call (codeAny_mono (F.run X.A hg X.stack s H ⟨us, []⟩ us vs Q hr I.env0 hb' r h) fun fin s' hq => ?_)
  cases fin with
  | error e => exact False.elim hq
  | ok fl => cases fl with
    | ret u => exact I.after hq
    | next => exact hq.elim
    | brk => exact hq.elim
    | cont => exact hq.elim
theorem pe_calG {x : Str} {k : Nat} {ps : List Str} {sp : Sp} {e : Expr} {es : List Expr} {t : TA} {p pos : Pos} (c : CalG X.prog X.w X.K X.mg X.base x k ps sp) (hgu : X.A.guards = some []) (hr : Room k X.A) (ha : PA X (e :: es) t) (hg : Gl X x := by rfl)
    (hdb : (x == ("__debug__" : Str)) = false := by decide) (he : starEach (e :: es) X.env = (false, eval e X.env) :: starEach es X.env := by rfl) (hpl : (backTo pos (starEach es X.env)).any (·.1) = false := by rfl) :
    PE X (.Call (.Name x p) (e :: es) [] pos) (fun σ H Q => t σ H fun vs H1 => sp vs H1 Q E0) := by
  obtain ⟨f, fd, F, b, kp, hm⟩ := c.ex
  refine ⟨fun pins s σ H Q I h => ?_⟩
  refine wpAny_Call_Name_kw (ld_glob I hg hm ?_ hdb)
  exact PySem.W.callWith_K (h₀ := X.base) I.ok.mod.kin kp (thn (ha.run pos pins s σ H _ I h) fun us s1 ⟨vs, H1, I1, r, q⟩ => ⟨I1.kIn, run_fnG F hgu hr b I1 r q⟩) he hpl
end
end RM
/-! Rightmarks k40: what own classes define: comparing, len, in, calls. -/
namespace RM
open PySem PySem.W PySem.Calls PyProof.Rows Builtin
section
variable {prog : Program} {w : World} {A : Around} {E : Value → Shared → Prop} {s : Shared} {K : Frag} {x y C C' f : Addr} {ox oy : Obj} {od od' : Option Obj} {b tb : Value} {Q : Value → Shared → Prop}
/-- a comparison whose left side is asked first and answers -/
theorem rich_left {op : CmpOp} (hu : A.units < cLine) (X : K.In s.heap) (I : InstAt s.heap x ox C od) (hb : Looks (model prog w) s.heap (typeOf b) tb) (hn : notFirst K C tb = true)
    (h : wpAny (model prog w) A (tryCompare (.ref x) (cmpInfo op).2.1 b) (fun r s' => ∃ v, r = some v ∧ Q v s') E s) : wpAny (model prog w) A (richCompare op (.ref x) b) Q E s := by
  have last : wpAny (model prog w) A (tryCompare (.ref x) (cmpInfo op).2.1 b) (fun r s' => ∃ v, r = some v ∧ Q v s') E s := h
  unfold richCompare
  simp only [oneThing_ref]
  refine wpAny_holding (wpAny_bind (wpAny_cRoomFor hu (wpAny_bind (I.type.here (wpAny_bind (hb.here ?_))))))
  by_cases c : (Value.ref C != tb) = true
  · rw [if_pos c]
    have e : subIn K tb (.ref C) = some false := by
      unfold notFirst at hn
      cases c2 : (tb == Value.ref C) with
      | true =>
        have e3 : tb = Value.ref C := beq_iff_eq.mp c2
        rw [e3] at c
        simp at c
      | false =>
        rw [c2, Bool.false_or] at hn
        exact beq_iff_eq.mp hn
    refine wpAny_bind ((looks_subIn X e).here ?_)
    simp only [Bool.false_eq_true, if_false]
    refine wpAny_bind (wpAny_mono last (fun r s' z => ?_) fun _ _ z => z)
    obtain ⟨v, rfl, q⟩ := z
    exact wpAny_pure q
  · rw [if_neg c]
    refine wpAny_bind (wpAny_pure ?_)
    simp only [Bool.false_eq_true, if_false]
    refine wpAny_bind (wpAny_mono last (fun r s' z => ?_) fun _ _ z => z)
    obtain ⟨v, rfl, q⟩ := z
    exact wpAny_pure q
/-- a comparison whose right side is of a subclass, is asked first and answers -/
theorem rich_right {op : CmpOp} (hu : A.units < cLine) (X : K.In s.heap) (I : InstAt s.heap x ox C od) (J : InstAt s.heap y oy C' od') (hne : C ≠ C') (hs : subIn K (.ref C') (.ref C) = some true)
    (h : wpAny (model prog w) A (tryCompare (.ref y) (cmpInfo op).2.2 (.ref x)) (fun r s' => ∃ v, r = some v ∧ Q v s') E s) : wpAny (model prog w) A (richCompare op (.ref x) (.ref y)) Q E s := by
  unfold richCompare
  simp only [oneThing_ref]
  refine wpAny_holding (wpAny_bind (wpAny_cRoomFor hu (wpAny_bind (I.type.here (wpAny_bind (J.type.here ?_))))))
  rw [if_pos (show (Value.ref C != Value.ref C') = true by simpa using hne)]
  refine wpAny_bind ((looks_subIn X hs).here ?_)
  simp only [if_true]
  refine wpAny_bind (wpAny_mono h (fun r s' z => ?_) fun _ _ z => z)
  obtain ⟨v, rfl, q⟩ := z
  exact wpAny_bind (wpAny_rule (wpAny_pure q))
/-- the own method answers with a bool -/
theorem try_own {name : Str} {Q : Option Value → Shared → Prop} (X : K.In s.heap) (I : InstAt s.heap x ox C od) (hs : findIn K (.ref C) name = some (some (.ref f))) (hf : isFn K (.ref f) = true)
    (h : wpAny (model prog w) A (call (.ref f) [.ref x, b]) (fun v s' => ∃ c, v = .bool c ∧ Q (some (.bool c)) s') E s) : wpAny (model prog w) A (tryCompare (.ref x) name b) Q E s := by
  unfold tryCompare
  refine wpAny_bind (ifBound_K X I hs hf (wpAny_mono h (fun v s' z => ?_) fun _ _ z => z))
  obtain ⟨c, rfl, q⟩ := z
  exact wpAny_pure q
/-- object's own != asks the own == and turns it round -/
theorem try_ne {Q : Option Value → Shared → Prop} (hu : A.units + 1 < cLine) (X : K.In s.heap) (I : InstAt s.heap x ox C od) (hn : findIn K (.ref C) "__ne__" = some (some (.builtin "object.__ne__"))) (hm : mroIn K C (.type "object") = some true)
    (hs : findIn K (.ref C) "__eq__" = some (some (.ref f))) (hf : isFn K (.ref f) = true)
    (h : wpAny (model prog w) A.in1 (call (.ref f) [.ref x, b]) (fun v s' => ∃ c, v = .bool c ∧ Q (some (.bool (!c))) s') E s) : wpAny (model prog w) A (tryCompare (.ref x) "__ne__" b) Q E s := by
  have S := F.cmp_object.ne
  have sub : Looks (model prog w) s.heap (isInstance (.ref x) (.type "object")) true := I.type.andThen (looks_mroIn X hm)
  -- the call of the slot
  have one : wpAny (model prog w) A (call (.builtin "object.__ne__") [.ref x, b]) (fun v s' => ∃ c, v = .bool c ∧ Q (some (.bool c)) s') E s := by
    refine wpAny_call (codeAny_call_builtin S.plain F.cmpEntry_ne (check_slot (owner := "object") (n := "__ne__") F.cmpKind_ne F.cmpSplit_ne sub (F.cmpArgs_ne _ _) ?_))
    unfold Builtin.«object.__ne__»
    refine wpAny_bind (wpAny_of_eq (a := (Value.ref x, [b])) (by first | rfl | kernel_rfl) ?_)
    dsimp only
    refine wpAny_bind (wpAny_cRoomFor (A := A.in1) hu ?_)
    refine wpAny_bind (ifBound_K X I hs hf (wpAny_mono h (fun v s' z => ?_) fun _ _ z => z))
    obtain ⟨c, rfl, q⟩ := z
    refine wpAny_bind (wpAny_truthy_bool (wpAny_pure ?_))
    exact ⟨_, rfl, q⟩
  unfold tryCompare
  simp only [callSpecialIfBound?, bindSpecialIfBound?]
  refine wpAny_bind (wpAny_holding (wpAny_bind (wpAny_bind (wpAny_bind (I.type.here ((looks_findIn X hn).here ?_))))))
  simp only [S.bind]
  have fin : wpAny (model prog w) A (call (.builtin "object.__ne__") ([.ref x] ++ [b]) >>= fun v => pure (some v)) (fun a s' => wpAny (model prog w) A (match a with | some .notImplemented => pure none | none => pure none | some v => pure (some v)) Q E s') E s :=
    wpAny_bind (wpAny_mono one (fun v s' z => by
      obtain ⟨c, rfl, q⟩ := z
      exact wpAny_pure (wpAny_pure q)) fun _ _ z => z)
  refine wpAny_bind (wpAny_askSetting (wpAny_ite ?_))
  split
  · exact wpAny_pure fin
  · exact wpAny_tryCatch (wpAny_pure fin)
end
end RM
/-! Rightmarks k40: rules over the layer for instances: ==, !=, len, in, a call. -/
namespace RM
open PySem PySem.Spec PyProof.Rows L2
theorem rref (a : Addr) : RelV (.ref a) (.ref a) := rfl
section
variable {X : Cx} {pins : List (Addr × Obj)} {σ : L2.St} {H : Hp} {s : Shared}
/-- a def that lets nothing out, run somewhere below -/
theorem run_at {A' : Around} {k : Nat} {f : Addr} {sp : Sp} {Q : VK} {us : List Value} {vs : List V} {E' : Value → Shared → Prop} (F : FnR X.prog X.w X.K X.mg X.base CX0 k f sp) (hr : Room k A') (hf : A'.frames = X.A.frames)
    (I : Inv X pins σ H s) (r : Vals vs us) (h : sp vs H Q E0) : wpAny (model X.prog X.w) A' (call (.ref f) us) (EP X pins σ Q) E' s := by
  have e := I.env0
  refine wpAny_call (codeAny_mono (F A' X.stack s H us vs Q E0 hr ⟨by rw [hf]; exact e.frames, e.mod, e.bs, e.bsz, e.funs, e.frf, e.hok, e.bare⟩ r h) fun fin s' hq => ?_)
  cases fin with
  | error e => exact False.elim hq
  | ok fl => cases fl with
    | ret u => exact I.after hq
    | next => exact hq.elim
    | brk => exact hq.elim
    | cont => exact hq.elim
/-- an instance as the library sees it -/
theorem ins_at {a C dx : Addr} {fs : List (Str × V)} (I : Inv X pins σ H s) (e : H a = some (.ins C dx fs)) : ∃ ox od, PySem.W.InstAt s.heap a ox C od ∧ ox.data = .plain := by
  obtain ⟨mA, O, _⟩ := ins_get I.hok e
  obtain ⟨od, J, _⟩ := O.look
  exact ⟨_, _, J, rfl⟩
end
/-! ### == and != -/
structure EqOf (K : PySem.W.Frag) (C f : Addr) : Prop where
  eq : PySem.W.findIn K (.ref C) "__eq__" = some (some (.ref f))
  fn : PySem.W.isFn K (.ref f) = true
  ne : PySem.W.findIn K (.ref C) "__ne__" = some (some (.builtin "object.__ne__"))
  ob : PySem.W.mroIn K C (.type "object") = some true
def turnB (neg c : Bool) : Bool := if neg then !c else c
def rOwnEq (K : PySem.W.Frag) (f : Addr) (sp : Sp) (neg : Bool) : R2 := fun x y H Q =>
  (∃ a C dx fs t, x = .ref a ∧ H a = some (.ins C dx fs) ∧ EqOf K C f ∧ TyX K H y t ∧ PySem.W.notFirst K C t = true ∧ sp [x, y] H (fun v H' => ∃ c, v = .bl c ∧ Q (.bl (turnB neg c)) H') E0) ∨
  (∃ a C dx fs b C' dy gs, x = .ref a ∧ y = .ref b ∧ H a = some (.ins C dx fs) ∧ H b = some (.ins C' dy gs) ∧ C ≠ C' ∧ PySem.W.subIn K (.ref C') (.ref C) = some true ∧ EqOf K C' f ∧ sp [y, x] H (fun v H' => ∃ c, v = .bl c ∧ Q (.bl (turnB neg c)) H') E0)
section
variable {X : Cx} {k : Nat} {f : Addr} {sp : Sp}
theorem eq_back {pins : List (Addr × Obj)} {σ : L2.St} {Q : VK} {neg : Bool} {v : Value} {s' : Shared} (h : EP X pins σ (fun v H' => ∃ c, v = .bl c ∧ Q (.bl (turnB neg c)) H') v s') : ∃ c, v = .bool c ∧ EP X pins σ Q (.bool (turnB neg c)) s' := by
  obtain ⟨z, H', I', rz, c, rfl, q⟩ := h
  cases rz
  exact ⟨c, rfl, .bl _, H', I', rfl, q⟩
theorem op_ownEq (F : FnR X.prog X.w X.K X.mg X.base CX0 k f sp) (hr : Room k X.A) : OpR X (compareOp .Eq) (rOwnEq X.K f sp false) := by
  intro pins s σ H x y v u Q I rx ry h
  rcases h with ⟨a, C, dx, fs, t, rfl, ha, hE, ty, hn, hsp⟩ | ⟨a, C, dx, fs, b, C', dy, gs, rfl, rfl, ha, hb, hne, hsub, hE, hsp⟩
  · cases rx
    obtain ⟨ox, od, J, _⟩ := ins_at I ha
    obtain ⟨P, Z, p, _⟩ := kit_of I ry ty
    show wpAny _ _ (richCompare .Eq _ _) _ _ _
    refine rich_left (op := .Eq) hr.units0 I.kIn J (Z.ty _ _ I.kIn p) hn (try_own I.kIn J hE.eq hE.fn (thn (run_at F hr rfl I (.cons (rref _) (.cons ry .nil)) hsp) fun r s' hq => ?_))
    obtain ⟨c, rfl, q⟩ := eq_back hq
    exact ⟨c, rfl, _, rfl, q⟩
  · cases rx
    cases ry
    obtain ⟨ox, od, J, _⟩ := ins_at I ha
    obtain ⟨oy, od', J', _⟩ := ins_at I hb
    show wpAny _ _ (richCompare .Eq _ _) _ _ _
    refine rich_right (op := .Eq) hr.units0 I.kIn J J' hne hsub (try_own I.kIn J' hE.eq hE.fn (thn (run_at F hr rfl I (.cons (rref _) (.cons (rref _) .nil)) hsp) fun r s' hq => ?_))
    obtain ⟨c, rfl, q⟩ := eq_back hq
    exact ⟨c, rfl, _, rfl, q⟩
theorem op_ownNe (F : FnR X.prog X.w X.K X.mg X.base CX0 k f sp) (hr : Room (k + 1) X.A) : OpR X (compareOp .NotEq) (rOwnEq X.K f sp true) := by
  intro pins s σ H x y v u Q I rx ry h
  have hu : X.A.units + 1 < cLine := hu_of hr
  rcases h with ⟨a, C, dx, fs, t, rfl, ha, hE, ty, hn, hsp⟩ | ⟨a, C, dx, fs, b, C', dy, gs, rfl, rfl, ha, hb, hne, hsub, hE, hsp⟩
  · cases rx
    obtain ⟨ox, od, J, _⟩ := ins_at I ha
    obtain ⟨P, Z, p, _⟩ := kit_of I ry ty
    show wpAny _ _ (richCompare .NotEq _ _) _ _ _
    refine rich_left (op := .NotEq) hr.units0 I.kIn J (Z.ty _ _ I.kIn p) hn (try_ne hu I.kIn J hE.ne hE.ob hE.eq hE.fn (thn (run_at F hr.in1 rfl I (.cons (rref _) (.cons ry .nil)) hsp) fun r s' hq => ?_))
    obtain ⟨c, rfl, q⟩ := eq_back hq
    exact ⟨c, rfl, _, rfl, q⟩
  · cases rx
    cases ry
    obtain ⟨ox, od, J, _⟩ := ins_at I ha
    obtain ⟨oy, od', J', _⟩ := ins_at I hb
    show wpAny _ _ (richCompare .NotEq _ _) _ _ _
    refine rich_right (op := .NotEq) hr.units0 I.kIn J J' hne hsub (try_ne hu I.kIn J' hE.ne hE.ob hE.eq hE.fn (thn (run_at F hr.in1 rfl I (.cons (rref _) (.cons (rref _) .nil)) hsp) fun r s' hq => ?_))
    obtain ⟨c, rfl, q⟩ := eq_back hq
    exact ⟨c, rfl, _, rfl, q⟩
/-! ### len -/
structure SpecOf (K : PySem.W.Frag) (C : Addr) (m : Str) (f : Addr) : Prop where
  at_ : PySem.W.findIn K (.ref C) m = some (some (.ref f))
  fn : PySem.W.isFn K (.ref f) = true
def rLenO (K : PySem.W.Frag) (f : Addr) (sp : Sp) : List V → Hp → VK → Prop := fun xs H Q => ∃ a C dx fs, xs = [.ref a] ∧ H a = some (.ins C dx fs) ∧ SpecOf K C "__len__" f ∧ sp [.ref a] H (fun v H' => ∃ n : Nat, v = .int n ∧ n ≤ sizeLine ∧ Q (.int n) H') E0
theorem call_lenO (F : FnR X.prog X.w X.K X.mg X.base CX0 k f sp) (hr : Room (k + 1) X.A) : CallR X (.builtin "len") (rLenO X.K f sp) := by
  intro pins s σ H xs us Q I r h
  obtain ⟨a, C, dx, fs, rfl, ha, hS, hsp⟩ := h
  obtain ⟨u, rfl, ru⟩ := vals1 r
  cases ru
  obtain ⟨ox, od, J, _⟩ := ins_at I ha
  obtain ⟨m, hF⟩ := I.fr
  refine PySem.W.len_K hF I.ok.mod.kin J hS.at_ hS.fn (thn (run_at F hr.in1 rfl I (.cons (rref _) .nil) hsp) fun v s' hq => ?_)
  obtain ⟨z, H', I', rz, n, rfl, hn, q⟩ := hq
  obtain ⟨t, rfl⟩ := rz
  have h63 := line63
  exact ⟨by omega, .int n, H', I'.tok _, ⟨_, rfl⟩, q⟩
/-! ### in -/
def rInO (K : PySem.W.Frag) (f : Addr) (sp : Sp) : R2 := fun x y H Q => ∃ a C dx fs, y = .ref a ∧ H a = some (.ins C dx fs) ∧ SpecOf K C "__contains__" f ∧ sp [.ref a, x] H (fun v H' => ∃ c, v = .bl c ∧ Q (.bl c) H') E0
theorem op_inO (F : FnR X.prog X.w X.K X.mg X.base CX0 k f sp) (hr : Room k X.A) : OpR X (compareOp .In) (rInO X.K f sp) := by
  intro pins s σ H x y v u Q I rx ry h
  obtain ⟨a, C, dx, fs, rfl, ha, hS, hsp⟩ := h
  cases ry
  obtain ⟨ox, od, J, _⟩ := ins_at I ha
  obtain ⟨m, hF⟩ := I.fr
  refine PySem.W.in_K hF I.ok.mod.kin J hS.at_ hS.fn (thn (run_at F hr rfl I (.cons (rref _) (.cons rx .nil)) hsp) fun r s' hq => ?_)
  obtain ⟨z, H', I', rz, c, rfl, q⟩ := hq
  cases rz
  exact wpAny_truthy_bool ⟨.bl c, H', I', rfl, q⟩
end
end RM
/-! Rightmarks k40: calls by keyword of an instance and of its method. -/
namespace RM
open PySem PySem.Spec PyProof.Rows L2
/-- how one keyword binds behind self -/
def KwBind (fd : FuncData) (ps : List Str) (kn : Str) : Prop := ∀ (a v : Value), bindArgs fd ⟨[a], [(kn, v)]⟩ = pure (ps.zip [a, v])
section
variable {X : Cx} {k : Nat} {f C : Addr} {fd : FuncData} {ps : List Str} {kn m : Str} {sp : Sp} {e o : Expr} {te ta : TE} {kpos pos apos : Pos}
/-- the def runs, self and one keyword given -/
theorem run_kw {pins : List (Addr × Obj)} {σ : L2.St} {H : Hp} {s : Shared} {Q : VK} {A' : Around} {a : Addr} {u : Value} {x : V} {R : Result → Shared → Prop} (F : FnOk X.prog X.w X.K X.mg X.base CX0 k f fd ps sp) (hb : KwBind fd ps kn) (hr : Room k A') (hf : A'.frames = X.A.frames)
    (I : Inv X pins σ H s) (r : RelV x u) (h : sp [.ref a, x] H Q E0) (hR : ∀ v s', EP X pins σ Q v s' → R (.ok (.ret v)) s') : codeAny (model X.prog X.w) A' (.call (.ref f) ⟨[.ref a], [(kn, u)]⟩) R s := by
  have e := I.env0
  have hl : [V.ref a, x].length = ps.length := F.len _ _ _ _ h
  refine codeAny_mono (F.run A' X.stack s H ⟨[.ref a], [(kn, u)]⟩ [.ref a, u] [.ref a, x] Q E0 hr ⟨by rw [hf]; exact e.frames, e.mod, e.bs, e.bsz, e.funs, e.frf, e.hok, e.bare⟩ (BindsTo.of_eq (hb _ _)) (.cons (rref a) (.cons r .nil)) h) fun fin s' hq => ?_
  cases fin with
  | error e => exact False.elim hq
  | ok fl => cases fl with
    | ret v => exact hR v s' (I.after hq)
    | next => exact hq.elim
    | brk => exact hq.elim
    | cont => exact hq.elim
/-- o.m(k = e) -/
def tMethKw (C : Addr) (m : Str) (sp : Sp) (ta te : TE) : TE := fun σ H Q => ta σ H fun x H1 => ∃ a dx fs, x = .ref a ∧ H1 a = some (.ins C dx fs) ∧ fs.lookup m = none ∧ tCons te tNil σ H1 fun zs H2 => ∃ y, zs = [y] ∧ sp [.ref a, y] H2 Q E0
theorem pe_methKw {pl : Sem Bool} (he : PE X o ta) (c : Cls X.K C) (hm : Meth X.K C m f) (F : FnOk X.prog X.w X.K X.mg X.base CX0 k f fd ps sp) (hb : KwBind fd ps kn) (hr : Room k X.A) (ha : PE X e te)
    (ht : eval (.Call (.Attribute o m apos) [] [⟨some kn, e, kpos⟩] pos) X.env = (do
      let ov ← eval o X.env
      standAt apos.atName
      let (g, fst) ← holding [ov] (getMethod ov m pl)
      callWith pos g fst (backTo pos (starEach [] X.env)) (backToKw pos (keywordEach [⟨some kn, e, kpos⟩] X.env))) := by rfl)
    (hall : (backToKw pos (keywordEach [⟨some kn, e, kpos⟩] X.env)).all (·.1.isSome) = true := by rfl) (hks : (backToKw pos (keywordEach [⟨some kn, e, kpos⟩] X.env)).filterMap (·.1) = [kn] := by rfl)
    (hpl : ((backTo pos (starEach [] X.env)).any (·.1) || (backToKw pos (keywordEach [⟨some kn, e, kpos⟩] X.env)).any (·.1.isNone)) = false := by rfl) :
    PE X (.Call (.Attribute o m apos) [] [⟨some kn, e, kpos⟩] pos) (tMethKw C m sp ta te) := by
  refine ⟨fun pins s σ H Q I h => ?_⟩
  refine PySem.W.methodCall_KW (pl := pl) (thn (he.run pins s σ H _ I h) fun u s1 ⟨x, H1, I1, rx, a, dx, fs, ex, ea, l, q⟩ => ?_) ht
  subst ex
  cases rx
  refine getmeth_ok I1 ea c hm l ?_
  refine PySem.W.callWith_KW0 (h₀ := X.base) (first := [.ref a]) I.ok.mod.kin hm.kp hall (thn ((pk_cons ha pk_nil).run pos pins s1 σ H1 _ I1 q) fun ws s2 ⟨zs, H2, I2, rz, y, ez, q2⟩ => ⟨I2.kIn, ?_⟩) hpl
  subst ez
  obtain ⟨w, rfl, rw'⟩ := vals1 rz
  rw [hks]
  exact wpAny_call (run_kw F hb hr rfl I2 rw' q2 fun v s' z => z)
/-- o(k = e), o an instance -/
def tCallKw (K : PySem.W.Frag) (g : Addr) (sp : Sp) (tf te : TE) : TE := fun σ H Q => tf σ H fun y H1 => ∃ a, y = V.ref a ∧ tCons te tNil σ H1 fun zs H2 => ∃ C dx fs x, zs = [x] ∧ H2 a = some (.ins C dx fs) ∧ StX.CallO K C g ∧ sp [.ref a, x] H2 Q E0
theorem pe_callKw {fe : Expr} {tf : TE} (hf : PE X fe tf) (F : FnOk X.prog X.w X.K X.mg X.base CX0 k f fd ps sp) (hb : KwBind fd ps kn) (hr : Room k X.A) (ha : PE X e te)
    (ht : eval (.Call fe [] [⟨some kn, e, kpos⟩] pos) X.env = (do callWith pos (← eval fe X.env) [] (backTo pos (starEach [] X.env)) (backToKw pos (keywordEach [⟨some kn, e, kpos⟩] X.env))) := by rfl)
    (hall : (backToKw pos (keywordEach [⟨some kn, e, kpos⟩] X.env)).all (·.1.isSome) = true := by rfl) (hks : (backToKw pos (keywordEach [⟨some kn, e, kpos⟩] X.env)).filterMap (·.1) = [kn] := by rfl)
    (hpl : ((backTo pos (starEach [] X.env)).any (·.1) || (backToKw pos (keywordEach [⟨some kn, e, kpos⟩] X.env)).any (·.1.isNone)) = false := by rfl) :
    PE X (.Call fe [] [⟨some kn, e, kpos⟩] pos) (tCallKw X.K f sp tf te) := by
  refine ⟨fun pins s σ H Q I h => ?_⟩
  rw [ht]
  refine wpAny_bind (thn (hf.run pins s σ H _ I h) fun u s1 ⟨y, H1, I1, ry, a, ey, q⟩ => ?_)
  subst ey
  cases ry
  unfold callWith
  refine wpAny_bind (wpAny_holding (PyProof.Rows.evalArgs_kw2_nil hall (thn ((pk_cons ha pk_nil).run pos pins s1 σ H1 _ I1 q) fun ws s2 ⟨zs, H2, I2, rz, C, dx, fs, x, ez, hi, hc, q2⟩ => wpAny_bind (wpAny_standAt ?_))))
  subst ez
  obtain ⟨w, rfl, rw'⟩ := vals1 rz
  obtain ⟨ox, od, J, hd⟩ := ins_at I2 hi
  simp only [hpl]
  refine wpAny_bind ((PySem.W.kco_keeper (M := model X.prog X.w) J hd).here ?_)
  refine wpAny_bind (thn (wpAny_operateT (thn (Q := EP X pins σ Q) ?_ fun _ _ z => z)) fun r s3 z => wpAny_bind (wpAny_holding (wpAny_point (wpAny_pure z))))
  rw [hks]
  exact wpAny_call (PySem.W.kco_code I2.kIn J hd hc.at_ hc.fn hc.fi (run_kw F hb hr rfl I2 rw' q2 fun v s' z => z))
end
end RM
/-! Rightmarks k40: comprehensions and loops, once for all. -/
namespace RM
open PySem PySem.Spec PyProof.Rows L2
theorem pr_get {α β : Type} {R : α → β → Prop} : ∀ {xs : List α} {ys : List β}, Paired R xs ys → ∀ {i : Nat} {x : α}, xs[i]? = some x → ∃ y, ys[i]? = some y ∧ R x y
  | _, _, .nil, i, x, h => by simp at h
  | _, _, .cons h t, 0, x, e => by
    obtain rfl : _ = x := Option.some.inj e
    exact ⟨_, rfl, h⟩
  | _, _, .cons h t, i + 1, x, e => pr_get t (i := i) e
theorem pr_getR {α β : Type} {R : α → β → Prop} : ∀ {xs : List α} {ys : List β}, Paired R xs ys → ∀ {i : Nat} {y : β}, ys[i]? = some y → ∃ x, xs[i]? = some x ∧ R x y
  | _, _, .nil, i, x, h => by simp at h
  | _, _, .cons h t, 0, x, e => by
    obtain rfl : _ = x := Option.some.inj e
    exact ⟨_, rfl, h⟩
  | _, _, .cons h t, i + 1, x, e => pr_getR t (i := i) e
theorem pr_map {α β γ : Type} {R : α → γ → Prop} (f : β → α) (g : β → γ) : ∀ (l : List β), (∀ b ∈ l, R (f b) (g b)) → Paired R (l.map f) (l.map g)
  | [], _ => .nil
  | b :: l, h => .cons (h b (List.mem_cons_self ..)) (pr_map f g l fun c m => h c (List.mem_cons_of_mem _ m))
theorem pr_int : ∀ (ns : List Int), Paired (fun (v : V) (n : Int) => v = .int n) (ns.map V.int) ns
  | [] => .nil
  | n :: ns => .cons rfl (pr_int ns)
theorem pr_int_eq : ∀ {vs : List V} {ns : List Int}, Paired (fun (v : V) (n : Int) => v = .int n) vs ns → vs = ns.map V.int
  | _, _, .nil => rfl
  | _, _, .cons h t => by rw [List.map_cons, ← h, ← pr_int_eq t]
theorem pr_self {α β : Type} (f : β → α) (R : α → β → Prop) (l : List β) (h : ∀ b ∈ l, R (f b) b) : Paired R (l.map f) l := by
  have e := pr_map f id l (R := R) h
  rw [List.map_id] at e
  exact e
theorem pr_mem {α β : Type} {R : α → β → Prop} {xs : List α} {ys : List β} (h : Paired R xs ys) {x : α} (m : x ∈ xs) : ∃ y ∈ ys, R x y := by
  obtain ⟨i, hi⟩ := List.mem_iff_getElem?.mp m
  obtain ⟨y, hy, r⟩ := pr_get h hi
  exact ⟨y, List.mem_of_getElem? hy, r⟩
theorem pr_ext {α β : Type} {R S : α → β → Prop} : ∀ {xs : List α} {ys : List β}, Paired R xs ys → (∀ x y, y ∈ ys → R x y → S x y) → Paired S xs ys
  | _, _, .nil, _ => .nil
  | _, _, .cons h t, g => .cons (g _ _ (List.mem_cons_self ..) h) (pr_ext t fun x y m => g x y (List.mem_cons_of_mem _ m))
theorem pr_append {α β : Type} {R : α → β → Prop} : ∀ {xs xs' : List α} {ys ys' : List β}, Paired R xs ys → Paired R xs' ys' → Paired R (xs ++ xs') (ys ++ ys')
  | _, _, _, _, .nil, h => h
  | _, _, _, _, .cons h t, k => .cons h (pr_append t k)
/-- what is made stands while the list at D grows -/
def Stb {α : Type} (D : Addr) (G : Hp → V → α → Prop) : Prop := ∀ H H' v x ys, G H v x → Kb D H H' → H D = some (.lst ys) → G H' v x
def gI : Hp → V → Int → Prop := fun _ v n => v = .int n
def gB : Hp → V → Bool → Prop := fun _ v n => v = .bl n
def gT (K : PySem.W.Frag) : Hp → V → List Int → Prop := fun H v ns => TupI K H v ns
theorem stbI {D : Addr} : Stb D gI := fun _ _ _ _ _ h _ _ => h
theorem stbB {D : Addr} : Stb D gB := fun _ _ _ _ _ h _ _ => h
theorem stbT {K : PySem.W.Frag} {D : Addr} : Stb D (gT K) := fun _ _ _ _ _ h e n => tupI_kb h e n
theorem same_kbN {D : Addr} {H1 H H' : Hp} (s : Same H1 H) (n : H1 D = none) (e : Kb D H H') : Same H1 H' := fun b o h => e b o (s b o h) (ne_of_none h n)
section
variable {β α : Type} {xs : List V} {bs : List β} {R : V → β → Prop} {i : Nat} {tt : TT} {te : TE} {σ : L2.St} {H1 : Hp} {D : Addr}
/-- the invariant: the part of the list that is made -/
def LcP (D : Addr) (H1 : Hp) (G : Hp → V → α → Prop) (r : Nat → List α) : Nat → Hp → Prop := fun k H => Same H1 H ∧ ∃ acc, H D = some (.lst acc) ∧ Paired (G H) acc (r k)
theorem lcp_start {G : Hp → V → α → Prop} {r : Nat → List α} (hD : H1 D = none) (h0 : r 0 = []) : LcP D H1 G r 0 (upd H1 D (.lst [])) := ⟨same_upd hD, [], upd_same, by rw [h0]; exact .nil⟩
theorem lcp_turn {G : Hp → V → α → Prop} (hD : H1 D = none) (hz : bs.length ≤ sizeLine) (hG : Stb D G) {p : β → Bool} {f : β → α} {k : Nat} {v : V} {b : β} {H : Hp} (hb : bs[k]? = some b)
    (ht : ∀ H, Same H1 H → ∀ Q : Bool → Hp → Prop, (∀ H', Same H H' → Q (p b) H') → tt ((σ.set i none).set i (some v)) H Q)
    (he : p b = true → ∀ H, Same H1 H → ∀ Q : VK, (∀ H' y, Same H H' → G H' y (f b) → Q y H') → te ((σ.set i none).set i (some v)) H Q)
    (h : LcP D H1 G (fun k => ((bs.take k).filter p).map f) k H) :
    gName i v (wipe σ [i]) H fun σ2 H2 => wipe σ2 [i] = wipe σ [i] ∧ tt σ2 H2 fun c H3 =>
      if c = true then te σ2 H3 fun y H4 => ∃ acc, H4 D = some (.lst acc) ∧ acc.length < sizeLine ∧ LcP D H1 G (fun k => ((bs.take k).filter p).map f) (k + 1) (upd H4 D (.lst (acc ++ [y]))) else LcP D H1 G (fun k => ((bs.take k).filter p).map f) (k + 1) H3 := by
  obtain ⟨sm, acc, ha, pa⟩ := h
  refine ⟨?_, ht H sm _ fun H3 s3 => ?_⟩
  · show (((σ.set i none).set i (some v)).set i none) = σ.set i none
    rw [List.set_set, List.set_set]
  · have st : ((bs.take (k + 1)).filter p).map f = ((bs.take k).filter p).map f ++ if p b then [f b] else [] := by
      rw [List.take_add_one, hb]
      cases e : p b <;> simp [e]
    have pa3 : Paired (G H3) acc (((bs.take k).filter p).map f) := pr_ext pa fun x y _ g => hG _ _ _ _ _ g (same_kb s3) ha
    cases e : p b with
    | false =>
      refine ite_f rfl ⟨sm.trans s3, acc, s3 _ _ ha, ?_⟩
      show Paired _ _ (((bs.take (k + 1)).filter p).map f)
      rw [st, e]
      simpa using pa3
    | true =>
      refine ite_t rfl (he e H3 (sm.trans s3) _ fun H4 y s4 gy => ?_)
      have a4 := s4 _ _ (s3 _ _ ha)
      have hk : k < bs.length := by
        rcases Nat.lt_or_ge k bs.length with c | c
        · exact c
        · rw [List.getElem?_eq_none c] at hb; cases hb
      have hl : acc.length < sizeLine := by
        rw [pa.length, List.length_map]
        have := List.length_filter_le p (bs.take k)
        rw [List.length_take] at this
        omega
      refine ⟨acc, a4, hl, same_kbN ((sm.trans s3).trans s4) hD Kb.upd, _, upd_same, ?_⟩
      show Paired _ _ (((bs.take (k + 1)).filter p).map f)
      rw [st, e]
      refine pr_append (pr_ext pa3 fun x y _ g => hG _ _ _ _ _ (hG _ _ _ _ _ g (same_kb s4) (s3 _ _ ha)) Kb.upd a4) (.cons (hG _ _ _ _ _ gy Kb.upd a4) .nil)
/-- all that a turn asks -/
def LcT (R : V → β → Prop) (bs : List β) (i : Nat) (σ : L2.St) (H1 : Hp) (tt : TT) (p : β → Bool) : Prop := ∀ v b, b ∈ bs → R v b → ∀ H, Same H1 H → ∀ Q : Bool → Hp → Prop, (∀ H', Same H H' → Q (p b) H') → tt ((σ.set i none).set i (some v)) H Q
def LcE (R : V → β → Prop) (bs : List β) (i : Nat) (σ : L2.St) (H1 : Hp) (te : TE) (p : β → Bool) (G : Hp → V → α → Prop) (f : β → α) : Prop := ∀ v b, b ∈ bs → R v b → p b = true → ∀ H, Same H1 H → ∀ Q : VK, (∀ H' y, Same H H' → G H' y (f b) → Q y H') → te ((σ.set i none).set i (some v)) H Q
def LcD (bs : List β) (H1 : Hp) (D : Addr) (p : β → Bool) (G : Hp → V → α → Prop) (f : β → α) (Qd : Hp → Prop) : Prop := ∀ H ys, Same H1 H → H D = some (.lst ys) → Paired (G H) ys ((bs.filter p).map f) → Qd H
theorem lcT_yes {p : β → Bool} (h : ∀ b, p b = true) : LcT R bs i σ H1 tYes p := fun v b _ _ H _ Q q => by
  have := q H fun _ _ e => e
  rw [h b] at this
  exact this
theorem lcp_done {G : Hp → V → α → Prop} {p : β → Bool} {f : β → α} {Qd : Hp → Prop} (hd : LcD bs H1 D p G f Qd) (hp : Paired R xs bs) (H : Hp) (h : LcP D H1 G (fun k => ((bs.take k).filter p).map f) xs.length H) : Qd H := by
  obtain ⟨sm, acc, ha, pa⟩ := h
  refine hd H acc sm ha ?_
  have e : bs.take xs.length = bs := by rw [hp.length, List.take_length]
  simpa only [e] using pa
variable {K : PySem.W.Frag} {a : Addr} {Qd : Hp → Prop} {G : Hp → V → α → Prop} {p : β → Bool} {f : β → α}
/-- over a list -/
theorem lcL (hp : Paired R xs bs) (hq : SqL K H1 a xs) (hD : H1 D = none) (hz : bs.length ≤ sizeLine) (hG : Stb D G) (ht : LcT R bs i σ H1 tt p) (he : LcE R bs i σ H1 te p G f) (hd : LcD bs H1 D p G f Qd) :
    ∃ W : Nat → Nat → Hp → Prop, (∃ m, W 0 m (upd H1 D (.lst []))) ∧ ∀ j m H, W j m H →
      ((Itl K a).stop j H ∧ Qd H) ∨ ((Itl K a).go j H ∧ ∃ Nx : Hp → Prop, (∀ H', Nx H' → ∃ m', m' < m ∧ W (j + 1) m' H') ∧ ∀ x H', (Itl K a).yld j H x H' → gName i x (wipe σ [i]) H' fun σ2 H2 => wipe σ2 [i] = wipe σ [i] ∧ tt σ2 H2 fun b H3 =>
        if b = true then te σ2 H3 fun y H4 => ∃ acc, H4 D = some (.lst acc) ∧ acc.length < sizeLine ∧ Nx (upd H4 D (.lst (acc ++ [y]))) else Nx H3) :=
  lc_list (g := gName i) (vs := [i]) (LcP D H1 G fun k => ((bs.take k).filter p).map f) (lcp_start hD (by simp)) (fun k H _ h => hq.ext h.1) (fun k x H hx h => by
    obtain ⟨b, hb, r⟩ := pr_get hp hx
    exact lcp_turn hD hz hG hb (ht x b (List.mem_of_getElem? hb) r) (fun e => he x b (List.mem_of_getElem? hb) r e) h) (fun H h => lcp_done hd hp H h)
theorem lcTu (hp : Paired R xs bs) (hq : SqT K H1 a xs) (hD : H1 D = none) (hz : bs.length ≤ sizeLine) (hG : Stb D G) (ht : LcT R bs i σ H1 tt p) (he : LcE R bs i σ H1 te p G f) (hd : LcD bs H1 D p G f Qd) :
    ∃ W : Nat → Nat → Hp → Prop, (∃ m, W 0 m (upd H1 D (.lst []))) ∧ ∀ j m H, W j m H →
      ((Itt K a).stop j H ∧ Qd H) ∨ ((Itt K a).go j H ∧ ∃ Nx : Hp → Prop, (∀ H', Nx H' → ∃ m', m' < m ∧ W (j + 1) m' H') ∧ ∀ x H', (Itt K a).yld j H x H' → gName i x (wipe σ [i]) H' fun σ2 H2 => wipe σ2 [i] = wipe σ [i] ∧ tt σ2 H2 fun b H3 =>
        if b = true then te σ2 H3 fun y H4 => ∃ acc, H4 D = some (.lst acc) ∧ acc.length < sizeLine ∧ Nx (upd H4 D (.lst (acc ++ [y]))) else Nx H3) :=
  lc_tup (g := gName i) (vs := [i]) (LcP D H1 G fun k => ((bs.take k).filter p).map f) (lcp_start hD (by simp)) (fun k H _ h => hq.ext h.1) (fun k x H hx h => by
    obtain ⟨b, hb, r⟩ := pr_get hp hx
    exact lcp_turn hD hz hG hb (ht x b (List.mem_of_getElem? hb) r) (fun e => he x b (List.mem_of_getElem? hb) r e) h) (fun H h => lcp_done hd hp H h)
end
section
variable {α : Type} {i n : Nat} {lo : Int} {tt : TT} {te : TE} {σ : L2.St} {H1 : Hp} {D : Addr} {Qd : Hp → Prop} {G : Hp → V → α → Prop} {p : Nat → Bool} {f : Nat → α}
theorem lcR (hD : H1 D = none) (hz : n ≤ sizeLine) (hG : Stb D G) (ht : LcT (fun v k => v = .int (lo + (k : Nat))) (List.range n) i σ H1 tt p) (he : LcE (fun v k => v = .int (lo + (k : Nat))) (List.range n) i σ H1 te p G f) (hd : LcD (List.range n) H1 D p G f Qd) :
    ∃ W : Nat → Nat → Hp → Prop, (∃ m, W 0 m (upd H1 D (.lst []))) ∧ ∀ j m H, W j m H →
      ((Itr lo n).stop j H ∧ Qd H) ∨ ((Itr lo n).go j H ∧ ∃ Nx : Hp → Prop, (∀ H', Nx H' → ∃ m', m' < m ∧ W (j + 1) m' H') ∧ ∀ x H', (Itr lo n).yld j H x H' → gName i x (wipe σ [i]) H' fun σ2 H2 => wipe σ2 [i] = wipe σ [i] ∧ tt σ2 H2 fun b H3 =>
        if b = true then te σ2 H3 fun y H4 => ∃ acc, H4 D = some (.lst acc) ∧ acc.length < sizeLine ∧ Nx (upd H4 D (.lst (acc ++ [y]))) else Nx H3) :=
  lc_range (g := gName i) (vs := [i]) (LcP D H1 G fun k => (((List.range n).take k).filter p).map f) (lcp_start hD (by simp)) (fun k H hk h => by
    have hb : (List.range n)[k]? = some k := by rw [List.getElem?_range hk]
    exact lcp_turn hD (by rw [List.length_range]; exact hz) hG hb (ht _ k (List.mem_of_getElem? hb) rfl) (fun e => he _ k (List.mem_of_getElem? hb) rfl e) h) (fun H h => by
    obtain ⟨sm, acc, ha, pa⟩ := h
    refine hd H acc sm ha ?_
    have e : (List.range n).take n = List.range n := List.take_of_length_le (by rw [List.length_range]; exact Nat.le_refl _)
    simpa only [e] using pa)
end
end RM
namespace RM
open PySem PySem.Spec PyProof.Rows L2
/-- a comprehension over zip of two tuples of one length -/
theorem lcZ {K : PySem.W.Frag} {a b : Addr} {xs ys : List V} {g : TG} {tt : TT} {te : TE} {vs : List Nat} {σ : L2.St} {H1 : Hp} {D : Addr} {Qd : Hp → Prop} (hl : xs.length = ys.length) (Pv : Nat → Hp → Prop) (h0 : Pv 0 (upd H1 D (.lst []))) (hq : ∀ i H, Pv i H → SqT K H a xs ∧ SqT K H b ys)
    (hs : ∀ (i : Nat) (x y : V) (T : Addr) H, xs[i]? = some x → ys[i]? = some y → Pv i H → H T = none → g (.ref T) (wipe σ vs) (upd H T (.tup [x, y])) fun σ2 H2 => wipe σ2 vs = wipe σ vs ∧ tt σ2 H2 fun b H3 =>
      if b = true then te σ2 H3 fun y H4 => ∃ acc, H4 D = some (.lst acc) ∧ acc.length < sizeLine ∧ Pv (i + 1) (upd H4 D (.lst (acc ++ [y]))) else Pv (i + 1) H3) (hd : ∀ H, Pv xs.length H → Qd H) :
    ∃ W : Nat → Nat → Hp → Prop, (∃ m, W 0 m (upd H1 D (.lst []))) ∧ ∀ i m H, W i m H →
      ((RZ.ItzT K a b).stop i H ∧ Qd H) ∨ ((RZ.ItzT K a b).go i H ∧ ∃ Nx : Hp → Prop, (∀ H', Nx H' → ∃ m', m' < m ∧ W (i + 1) m' H') ∧ ∀ x H', (RZ.ItzT K a b).yld i H x H' → g x (wipe σ vs) H' fun σ2 H2 => wipe σ2 vs = wipe σ vs ∧ tt σ2 H2 fun b H3 =>
        if b = true then te σ2 H3 fun y H4 => ∃ acc, H4 D = some (.lst acc) ∧ acc.length < sizeLine ∧ Nx (upd H4 D (.lst (acc ++ [y]))) else Nx H3) := by
  refine ⟨fun i m H => (m = xs.length - i ∧ i ≤ xs.length) ∧ Pv i H, ⟨xs.length, ⟨by simp, Nat.zero_le _⟩, h0⟩, ?_⟩
  rintro i m H ⟨⟨rfl, hi⟩, p⟩
  obtain ⟨qx, qy⟩ := hq i H p
  rcases Nat.lt_or_ge i xs.length with hlt | hge
  · refine .inr ⟨⟨xs, ys, xs[i], ys[i]'(by omega), qx, qy, by simp [hlt], by simp [show i < ys.length by omega]⟩, Pv (i + 1), fun H' p' => ⟨xs.length - (i + 1), by omega, ⟨rfl, hlt⟩, p'⟩, fun v H' y => ?_⟩
    obtain ⟨T, x', y', rfl, hT, rfl, f1, f2⟩ := y
    exact hs i x' y' T H (f1 xs qx) (f2 ys qy) p hT
  · obtain rfl : i = xs.length := by omega
    exact .inl ⟨⟨xs, ys, qx, qy, Or.inl (Nat.le_refl _)⟩, hd H p⟩
theorem take_snoc {α : Type} {l : List α} {i : Nat} {x : α} (h : l[i]? = some x) : l.take (i + 1) = l.take i ++ [x] := by rw [List.take_add_one, h]; rfl
theorem getI {ns : List Int} {i : Nat} {x : V} (h : (ns.map V.int)[i]? = some x) : ∃ n, ns[i]? = some n ∧ x = .int n := by
  rw [List.getElem?_map] at h
  cases e : ns[i]? with
  | none => rw [e] at h; cases h
  | some n => rw [e] at h; exact ⟨n, rfl, (Option.some.inj h).symm⟩
section
variable {P : Program} {w : World} {K : PySem.W.Frag} {mg : Str → Option Value} {base : Heap}
/-! divisor_of: 1 -/
def spDivisor : Sp := fun vs H Q _ => ∃ a b : Int, vs = [.int a, .int b] ∧ 0 ≤ a ∧ 0 ≤ b ∧ Q (.int (Int.gcd a b)) H
theorem sc_divisor : FnScope ["one", "other"] ["one", "other"] (defScope (top 1)) := ⟨rfl, rfl, rfl, by decide +kernel, rfl, by decide +kernel, by decide +kernel⟩
theorem c_divisor (D : DefAt K mg "divisor_of" (top 1)) : Cal P w K mg base "divisor_of" 1 ["one", "other"] spDivisor := by
  refine cal_mk D sc_divisor (fun _ _ _ _ _ _ us hl => match us, hl with | [_, _], _ => rfl) (fun vs H Q E h => ?_) (fun cdv f A outer s H vs Q E hr h => ?_)
  · obtain ⟨a, b, rfl, _⟩ := h
    rfl
  · obtain ⟨a, b, rfl, ha, hb, k⟩ := h
    refine ⟨_, pss_cons (ps_while PassesOwn.never (pt_cmpR op_ne (pv 1) pe_int (nomark _))
        (pss_one (ps_par (i := 0) (j := 1) rfl sc_divisor.nd rfl rfl (by decide) rfl rfl (pa_cons (pv 1) (pa_cons (pe_op op_mod (pv 0) (pv 1)) pa_nil)) rfl)))
      (pss_one (ps_ret (pv 0))), ?_⟩
    refine ⟨fun m σ H' => ∃ x y : Int, σ = [some (.int x), some (.int y)] ∧ H' = H ∧ 0 ≤ x ∧ 0 ≤ y ∧ Int.gcd x y = Int.gcd a b ∧ m = y.toNat, ⟨_, a, b, rfl, rfl, ha, hb, rfl, rfl⟩, ?_⟩
    rintro m σ H' ⟨x, y, rfl, rfl, hx, hy, hg, rfl⟩
    refine ⟨_, rfl, rfl, _, rfl, ?_⟩
    by_cases h0 : y = 0
    · subst h0
      refine ite_f (by simp) ⟨_, rfl, ?_⟩
      have e : x = (Int.gcd a b : Int) := by rw [← hg, Int.gcd_zero_right]; omega
      rw [e]
      exact k
    · have e : (!decide (V.int y = V.int 0)) = true := by simpa using h0
      refine ite_t e ⟨_, fun σ' H'' h => h, _, rfl, _, rfl, _, rfl, _, _, rfl, rfl, by omega, _, _, rfl, ?_⟩
      have hm0 := Int.emod_nonneg x h0
      have hm1 := Int.emod_lt_of_pos x (show 0 < y by omega)
      refine ⟨(x % y).toNat, by omega, y, x % y, rfl, rfl, hy, hm0, ?_, rfl⟩
      rw [← hg]; exact gcd_step x y hx hy
/-! common_divisor: 2 -/
theorem abs_nat (n : Int) : (if n < 0 then -n else n) = (n.natAbs : Int) := by split <;> omega
def spCommon : Sp := fun vs H Q _ => ∃ v ns, vs = [v] ∧ TupI K H v ns ∧ Q (.int (gcdN ns)) H
theorem sc_common : FnScope ["numbers", "found", "number"] ["numbers"] (defScope (top 2)) := ⟨rfl, rfl, rfl, by decide +kernel, rfl, by decide +kernel, by decide +kernel⟩
theorem c_common (T : Tx K mg) (D : DefAt K mg "common_divisor" (top 2)) (C1 : Cal P w K mg base "divisor_of" 1 ["one", "other"] spDivisor) : Cal P w K mg base "common_divisor" 2 ["numbers"] (spCommon (K := K)) := by
  refine cal_mk D sc_common (fun _ _ _ _ _ _ us hl => match us, hl with | [_], _ => rfl) (fun vs H Q E h => ?_) (fun cdv f A outer s H vs Q E hr h => ?_)
  · obtain ⟨v, ns, rfl, _⟩ := h
    rfl
  · obtain ⟨v, ns, rfl, ⟨t, rfl, hq⟩, k⟩ := h
    refine ⟨_, pss_cons (ps_set (i := 1) sc_common.nd rfl (Or.inl rfl) pe_int) (pss_cons (ps_for PassesOwn.never rfl (pi_tup (pv 0)) (pg_name (i := 2) sc_common.nd rfl (Or.inl rfl))
        (pss_one (ps_set (i := 1) sc_common.nd rfl (Or.inl rfl) (pe_cal C1 hr (pa_cons (pv 1) (pa_cons (pe_callB call_abs (by rfl) T.abs rfl (pa_cons (pv 2) pa_nil)) pa_nil))))))
      (pss_one (ps_ret (pv 1)))), ?_⟩
    refine ⟨_, rfl, t, rfl, ⟨_, hq⟩, for_tup (xs := ns.map V.int) (fun i σ H' => H' = H ∧ ∃ o, σ = [some (.ref t), some (.int (gcdN (ns.take i))), o]) ⟨rfl, _, rfl⟩ ?_ ?_ ?_⟩
    · rintro i σ H' _ ⟨rfl, _⟩
      exact hq
    · rintro i x σ H' hx ⟨rfl, o, rfl⟩
      obtain ⟨n, hn, rfl⟩ := getI hx
      refine ⟨_, rfl, _, rfl, _, rfl, _, _, rfl, by omega, ?_, rfl, some (.int n), ?_⟩
      · split <;> omega
      · show [_, _, _] = [_, _, _]
        rw [abs_nat, take_snoc hn, show gcdN (ns.take i ++ [n]) = Nat.gcd (gcdN (ns.take i)) n.natAbs from by unfold gcdN; rw [List.foldl_append]; rfl]
        rfl
    · rintro σ H' ⟨rfl, o, rfl⟩
      refine ⟨_, rfl, ?_⟩
      rw [List.length_map, List.take_length]
      exact k
/-! dot_by: 3 -/
def Far (xs : List Int) : Prop := ∀ x ∈ xs, -(2 ^ 64) < x ∧ x < 2 ^ 64
def spDot : Sp := fun vs H Q _ => ∃ v u xs ys, vs = [v, u] ∧ TupI K H v xs ∧ TupI K H u ys ∧ xs.length = ys.length ∧ xs.length ≤ sizeLine ∧ Far xs ∧ ∀ H', Same H H' → Q (.int (dot xs ys)) H'
theorem sc_dot : FnScope ["one", "other", "here", "there"] ["one", "other"] (defScope (top 3)) := ⟨rfl, rfl, rfl, by decide +kernel, rfl, by decide +kernel, by decide +kernel⟩
def mulL (xs ys : List Int) : List Int := (xs.zip ys).map fun p => p.1 * p.2
theorem mulL_take {xs ys : List Int} {i : Nat} {x y : Int} (h1 : xs[i]? = some x) (h2 : ys[i]? = some y) : (mulL xs ys).take (i + 1) = (mulL xs ys).take i ++ [x * y] := by
  refine take_snoc ?_
  unfold mulL
  rw [List.getElem?_map, (List.getElem?_zip_eq_some (z := (x, y))).mpr ⟨h1, h2⟩]
  rfl
theorem mulL_len {xs ys : List Int} (h : xs.length = ys.length) : (mulL xs ys).length = xs.length := by unfold mulL; rw [List.length_map, List.length_zip]; omega
/-- what both dots read -/
theorem dot_read {i j : Nat} {tt te} {σ : L2.St} {H : Hp} {t u : Addr} {xs ys : List Int} {D : Addr} {Qd : Hp → Prop} (hD : H D = none) (hq : SqT K H t (xs.map V.int)) (hq' : SqT K H u (ys.map V.int)) (hl : xs.length = ys.length) (hz : xs.length ≤ sizeLine) (hf : Far xs)
    (ij : i ≠ j) (hi : i < σ.length) (hj : j < σ.length) (e1 : tt = tYes) (e2 : te = tOp (rI CMul fun i j => .int (i * j)) (tVar i) (tVar j)) (k : ∀ H', Same H H' → H' D = some (.lst ((mulL xs ys).map V.int)) → Qd H') :
    ∃ W : Nat → Nat → Hp → Prop, (∃ m, W 0 m (upd H D (.lst []))) ∧ ∀ k m H, W k m H →
      ((RZ.ItzT K t u).stop k H ∧ Qd H) ∨ ((RZ.ItzT K t u).go k H ∧ ∃ Nx : Hp → Prop, (∀ H', Nx H' → ∃ m', m' < m ∧ W (k + 1) m' H') ∧ ∀ x H', (RZ.ItzT K t u).yld k H x H' → gTup K 2 (gCons (gName i) (gCons (gName j) gNil)) x (wipe σ [i, j]) H' fun σ2 H2 => wipe σ2 [i, j] = wipe σ [i, j] ∧ tt σ2 H2 fun b H3 =>
        if b = true then te σ2 H3 fun y H4 => ∃ acc, H4 D = some (.lst acc) ∧ acc.length < sizeLine ∧ Nx (upd H4 D (.lst (acc ++ [y]))) else Nx H3) := by
  subst e1 e2
  refine lcZ (xs := xs.map V.int) (ys := ys.map V.int) (by rw [List.length_map, List.length_map, hl]) (fun k H' => Same H H' ∧ H' D = some (.lst (((mulL xs ys).take k).map V.int))) ⟨same_upd hD, upd_same⟩ ?_ ?_ ?_
  · rintro k H' ⟨s, _⟩
    exact ⟨hq.ext s, hq'.ext s⟩
  · rintro k x y T H' hx hy ⟨s, hd⟩ hT
    obtain ⟨n, hn, rfl⟩ := getI hx
    obtain ⟨m, hm, rfl⟩ := getI hy
    have li : i < (((σ.set j none).set i none)).length := by simpa using hi
    have e0 : wipe σ [i, j] = ((σ.set j none).set i none) := rfl
    rw [e0]
    refine ⟨T, _, rfl, SqT.of upd_same, rfl, _, _, rfl, _, _, rfl, rfl, ?_, ?_⟩
    · show ((((((σ.set j none).set i none).set i (some (.int n))).set j (some (.int m))).set j none).set i none) = (σ.set j none).set i none
      rw [List.set_set, List.set_set, List.set_comm _ _ ij, List.set_set, List.set_set]
    · unfold tYes
      refine ite_t rfl ⟨_, ?_, .int m, ?_, _, m, rfl, rfl, .inl (hf n (List.mem_of_getElem? hn)), ((mulL xs ys).take k).map V.int, ?_, ?_, ?_, ?_⟩
      · rw [List.getElem?_set_ne (Ne.symm ij), List.getElem?_set_self li]
      · rw [List.getElem?_set_self (by simpa using hj)]
      · rw [upd_ne (fun e => by rw [e, hT] at hd; cases hd)]
        exact hd
      · rw [List.length_map, List.length_take, mulL_len hl]
        have : k < xs.length := (List.getElem?_eq_some_iff.mp hn).1
        omega
      · exact same_kbN (s.trans (same_upd hT)) hD Kb.upd
      · rw [upd_same, mulL_take hn hm, List.map_append]
        rfl
  · rintro H' ⟨s, hd⟩
    refine k H' s ?_
    rw [hd, List.length_map, ← mulL_len hl, List.take_length]
theorem c_dot (T : Tx K mg) (D : DefAt K mg "dot_by" (top 3)) : Cal P w K mg base "dot_by" 1 ["one", "other"] (spDot (K := K)) := by
  refine cal_mk D sc_dot (fun _ _ _ _ _ _ us hl => match us, hl with | [_, _], _ => rfl) (fun vs H Q E h => ?_) (fun cdv f A outer s H vs Q E hr h => ?_)
  · obtain ⟨v, u, xs, ys, rfl, _⟩ := h
    rfl
  · obtain ⟨v, u, xs, ys, rfl, ⟨t, rfl, hq⟩, ⟨t', rfl, hq'⟩, hl, hz, hf, k⟩ := h
    refine ⟨_, pss_one (ps_ret (pe_callB (cr_sum rfl) (by rfl) T.sum rfl (pa_cons (pe_lc (own := [("here", 2), ("there", 3)]) (g := gTup K 2 (gCons (gName 2) (gCons (gName 3) gNil))) (tt := tYes) rfl sc_dot.nd (RZ.pi_zipA (by rfl) T.zip (pa_cons (pv 0) (pa_cons (pv 1) pa_nil)))
        (blkOk_by (N := ["one", "other", "here", "there"]) (sc := defScope (top 3)) (by decide +kernel)) (fun _ _ _ _ _ => pg_tup rfl (pgs_cons (pg_name (i := 2) sc_dot.nd rfl (Or.inl rfl)) (pgs_cons (pg_name (i := 3) sc_dot.nd rfl (Or.inl rfl)) pgs_nil))) (fun _ _ _ _ _ => pts_nil) (fun _ _ _ _ _ => pe_op op_mul (pv 2) (pv 3))) pa_nil))), ?_⟩
    refine ⟨_, rfl, _, rfl, t, t', _, _, rfl, .inr ⟨hq, hq', fun D hD => dot_read (i := 2) (j := 3) hD hq hq' hl hz hf (by decide) (show 2 < 4 by decide) (show 3 < 4 by decide) rfl rfl fun H' s hd => ?_⟩⟩
    exact ⟨D, mulL xs ys, rfl, SqL.of hd, k H' s⟩
end
end RM
namespace RM
open PySem PySem.Spec PyProof.Rows L2
theorem tyx_tup {K : PySem.W.Frag} {H : Hp} {t : Addr} {xs : List V} (h : SqT K H t xs) : TyX K H (.ref t) (.type "tuple") := by
  rcases h with (h | ⟨o, h⟩) | ⟨o, its, n, h, c, _⟩
  · exact .base (.tup h)
  · exact .fTuple h
  · exact .kTuple h c
theorem getD_some {α : Type} {l : List α} {i : Nat} {x : α} (h : l[i]? = some x) (d : α) : l.getD i d = x := by rw [List.getD_eq_getElem?_getD, h]; rfl
section
variable {P : Program} {w : World} {K : PySem.W.Frag} {mg : Str → Option Value} {base : Heap}
/-! is_integer: 5 -/
def spIsInt : Sp := fun vs H Q _ => ∃ i : Int, vs = [.int i] ∧ Q (.bl true) H
theorem sc_isint : FnScope ["thing"] ["thing"] (defScope (top 5)) := ⟨rfl, rfl, rfl, by decide +kernel, rfl, by decide +kernel, by decide +kernel⟩
theorem c_isint (T : Tx K mg) (D : DefAt K mg "is_integer" (top 5)) : Cal P w K mg base "is_integer" 1 ["thing"] spIsInt := by
  refine cal_mk D sc_isint (fun _ _ _ _ _ _ us hl => match us, hl with | [_], _ => rfl) (fun vs H Q E h => ?_) (fun cdv f A outer s H vs Q E hr h => ?_)
  · obtain ⟨i, rfl, _⟩ := h
    rfl
  · obtain ⟨i, rfl, k⟩ := h
    refine ⟨_, pss_one (ps_ret (pe_and (pe_callB call_isi (by rfl) T.isinstance rfl (pa_cons (pv 0) (pa_cons (pe_bltn (v := .ty "int") (by rfl) T.int rfl rfl) pa_nil)))
      (pe_one (pe_not (pe_callB call_isi (by rfl) T.isinstance rfl (pa_cons (pv 0) (pa_cons (pe_bltn (v := .ty "bool") (by rfl) T.bool rfl rfl) pa_nil))))))), ?_⟩
    refine ⟨_, rfl, _, _, _, _, true, rfl, .ty _, .base (.int i), kit_ty (by decide +kernel), true, rfl, ?_⟩
    exact ite_t rfl ⟨_, rfl, _, _, _, _, false, rfl, .ty _, .base (.int i), kit_ty (by decide +kernel), false, rfl, k⟩
/-! are_integers: 6 -/
def spAreInt : Sp := fun vs H Q _ => ∃ v ns, vs = [v] ∧ TupI K H v ns ∧ ns.length ≤ sizeLine ∧ ∀ H', Same H H' → Q (.bl true) H'
theorem sc_areint : FnScope ["thing", "one"] ["thing"] (defScope (top 6)) := ⟨rfl, rfl, rfl, by decide +kernel, rfl, by decide +kernel, by decide +kernel⟩
theorem all_true {ns : List Int} {p : Int → Bool} (h : ∀ x, p x = true) : ((ns.filter fun _ => true).map p).all id = true := by
  rw [List.all_eq_true]
  intro x hx
  obtain ⟨y, _, rfl⟩ := List.mem_map.mp hx
  exact h y
theorem pr_bl_eq : ∀ {vs : List V} {bs : List Bool}, Paired (fun (v : V) (n : Bool) => v = .bl n) vs bs → vs = bs.map V.bl
  | _, _, .nil => rfl
  | _, _, .cons h t => by rw [List.map_cons, ← h, ← pr_bl_eq t]
theorem c_areint (T : Tx K mg) (D : DefAt K mg "are_integers" (top 6)) (C1 : Cal P w K mg base "is_integer" 1 ["thing"] spIsInt) : Cal P w K mg base "are_integers" 2 ["thing"] (spAreInt (K := K)) := by
  refine cal_mk D sc_areint (fun _ _ _ _ _ _ us hl => match us, hl with | [_], _ => rfl) (fun vs H Q E h => ?_) (fun cdv f A outer s H vs Q E hr h => ?_)
  · obtain ⟨v, ns, rfl, _⟩ := h
    rfl
  · obtain ⟨v, ns, rfl, ⟨t, rfl, hq⟩, hz, k⟩ := h
    refine ⟨_, pss_one (ps_ret (pe_and (pe_callB call_isi (by rfl) T.isinstance rfl (pa_cons (pv 0) (pa_cons (pe_bltn (v := .ty "tuple") (by rfl) T.tuple rfl rfl) pa_nil)))
      (pe_one (pe_callB (cr_all rfl) (by rfl) T.all rfl (pa_cons (pe_lc (own := [("one", 1)]) (g := gName 1) (tt := tYes) rfl sc_areint.nd (pi_tup (pv 0)) (blkOk_by (N := ["thing", "one"]) (sc := defScope (top 6)) (by decide +kernel)) (fun _ _ _ _ _ => pg_name (i := 1) sc_areint.nd rfl (Or.inl rfl)) (fun _ _ _ _ _ => pts_nil)
        (fun _ _ _ _ _ => pe_cal C1 (by exact hr) (pa_cons (pv 1) pa_nil))) pa_nil))))), ?_⟩
    refine ⟨_, rfl, _, _, _, _, true, rfl, .ty _, tyx_tup hq, kit_ty (by decide +kernel), true, rfl, ite_t rfl ⟨_, rfl, t, rfl, ⟨_, hq⟩, fun D hD => lcTu (pr_int ns) hq hD hz stbB (p := fun _ => true) (f := fun _ => true) (lcT_yes fun _ => rfl) ?_ ?_⟩⟩
    · rintro v b _ rfl _ H' s Q q
      exact ⟨_, rfl, b, rfl, q _ _ (fun _ _ e => e) rfl⟩
    · intro H' ys s hd pr
      have e := pr_bl_eq pr
      subst e
      refine ⟨D, _, rfl, SqL.of hd, ?_⟩
      rw [all_true fun _ => rfl]
      exact k H' s
/-! is_ray: 7 -/
def spRay : Sp := fun vs H Q _ => ∃ v ns, vs = [v] ∧ TupI K H v ns ∧ ns.length ≤ sizeLine ∧ ∀ H', Same H H' → Q (.bl (isRay ns)) H'
theorem sc_ray : FnScope ["thing", "firsts", "number"] ["thing"] (defScope (top 7)) := ⟨rfl, rfl, rfl, by decide +kernel, rfl, by decide +kernel, by decide +kernel⟩
theorem c_ray (T : Tx K mg) (D : DefAt K mg "is_ray" (top 7)) (C1 : Cal P w K mg base "are_integers" 2 ["thing"] (spAreInt (K := K))) (C2 : Cal P w K mg base "common_divisor" 2 ["numbers"] (spCommon (K := K))) : Cal P w K mg base "is_ray" 3 ["thing"] (spRay (K := K)) := by
  refine cal_mk D sc_ray (fun _ _ _ _ _ _ us hl => match us, hl with | [_], _ => rfl) (fun vs H Q E h => ?_) (fun cdv f A outer s H vs Q E hr h => ?_)
  · obtain ⟨v, ns, rfl, _⟩ := h
    rfl
  · obtain ⟨v, ns, rfl, ⟨t, rfl, hq⟩, hz, k⟩ := h
    refine ⟨_, pss_cons (ps_if (pt_not (pt_val (pe_cal C1 hr (pa_cons (pv 0) pa_nil)))) (pss_one (ps_ret pe_bl)) pss_nil)
      (pss_cons (ps_setLc (i := 1) (own := [("number", 2)]) (g := gName 2) (tt := tTest (tOp rNe (tVar 2) (tC (.int 0)))) rfl sc_ray.nd rfl rfl (sw_true rfl rfl rfl (by decide +kernel)) (pi_tup (pv 0)) (blkOk_by (N := ["thing", "firsts", "number"]) (sc := defScope (top 7)) (by decide +kernel)) (fun _ _ _ _ _ => pg_name (i := 2) sc_ray.nd rfl (Or.inl rfl))
          (fun _ _ _ _ _ => pts_one (pt_cmpR op_ne (pv 2) pe_int (nomark _))) (fun _ _ _ _ _ => pv 2))
      (pss_one (ps_ret (pe_and (pe_cmpR op_gt (pe_callB call_len (by rfl) T.len rfl (pa_cons (pv 1) pa_nil)) pe_int (nomark _)) (pe_and (pe_cmpR op_gt (pe_ix ix_list (pv 1) pe_int (fun _ _ => rfl)) pe_int (nomark _)) (pe_one (pe_cmpR op_eq (pe_cal C2 hr (pa_cons (pv 0) pa_nil)) pe_int (nomark _)))))))), ?_⟩
    refine ⟨_, rfl, _, ns, rfl, ⟨t, rfl, hq⟩, hz, fun H1 s1 => ⟨_, rfl, ite_f rfl ?_⟩⟩
    refine ⟨_, rfl, t, rfl, ⟨_, hq.ext s1⟩, fun D hD => lcTu (pr_int ns) (hq.ext s1) hD hz stbI (p := fun x => !decide (x = 0)) (f := fun x => x) ?_ ?_ ?_⟩
    · rintro v b _ rfl H' s Q q
      refine ⟨_, rfl, rfl, _, rfl, ?_⟩
      have := q H' fun _ _ e => e
      simpa using this
    · rintro v b _ rfl _ H' s Q q
      exact ⟨_, rfl, q _ _ (fun _ _ e => e) rfl⟩
    · intro H2 ys s2 hd pr
      rw [List.map_id'] at pr
      have e := pr_int_eq pr
      subst e
      have s12 := s1.trans s2
      change H2 D = some (.lst ((nz ns).map V.int)) at hd
      refine ⟨_, rfl, _, _, rfl, .inl ⟨_, SqL.of hd, rfl⟩, _, _, rfl, rfl, _, rfl, ?_⟩
      cases e : nz ns with
      | nil =>
        refine ite_f rfl ?_
        have := k H2 s12
        unfold isRay at this
        rw [e] at this
        exact this
      | cons x l =>
        rw [e] at hd
        have hk := k H2 s12
        unfold isRay at hk
        rw [e] at hk
        change Q (V.bl (decide (0 < x) && decide (gcdN ns = 1))) H2 at hk
        refine ite_t (by simp) ⟨_, rfl, D, _, _, _, rfl, rfl, SqL.of hd, atI_nat (j := 0) rfl, _, _, rfl, rfl, _, rfl, ?_⟩
        by_cases hx : 0 < x
        · refine ite_t (by simpa using hx) ⟨_, rfl, _, ns, rfl, ⟨t, rfl, hq.ext s12⟩, rfl, ?_⟩
          rw [decide_eq_true hx, Bool.true_and] at hk
          have e2 : decide (V.int (gcdN ns : Int) = V.int 1) = decide (gcdN ns = 1) := by simp; omega
          rw [e2]
          exact hk
        · refine ite_f (by simpa using hx) ?_
          rw [decide_eq_false hx, Bool.false_and] at hk
          exact hk
/-! is_ray_of: 8 -/
def spRayOf : Sp := fun vs H Q _ => ∃ v ns, ∃ n : Int, vs = [.int n, v] ∧ TupI K H v ns ∧ ns.length ≤ sizeLine ∧ ∀ H', Same H H' → Q (.bl (isRay ns && decide ((ns.length : Int) = n))) H'
theorem sc_rayof : FnScope ["size", "thing"] ["size", "thing"] (defScope (top 8)) := ⟨rfl, rfl, rfl, by decide +kernel, rfl, by decide +kernel, by decide +kernel⟩
theorem c_rayof (T : Tx K mg) (D : DefAt K mg "is_ray_of" (top 8)) (C1 : Cal P w K mg base "is_ray" 3 ["thing"] (spRay (K := K))) : Cal P w K mg base "is_ray_of" 4 ["size", "thing"] (spRayOf (K := K)) := by
  refine cal_mk D sc_rayof (fun _ _ _ _ _ _ us hl => match us, hl with | [_, _], _ => rfl) (fun vs H Q E h => ?_) (fun cdv f A outer s H vs Q E hr h => ?_)
  · obtain ⟨v, ns, n, rfl, _⟩ := h
    rfl
  · obtain ⟨v, ns, n, rfl, ⟨t, rfl, hq⟩, hz, k⟩ := h
    refine ⟨_, pss_one (ps_ret (pe_and (pe_cal C1 hr (pa_cons (pv 1) pa_nil)) (pe_one (pe_cmpR op_eq (pe_callB call_len (by rfl) T.len rfl (pa_cons (pv 1) pa_nil)) (pv 0) (nomark _))))), ?_⟩
    refine ⟨_, rfl, _, ns, rfl, ⟨t, rfl, hq⟩, hz, fun H1 s1 => ⟨_, rfl, ?_⟩⟩
    have hk := k H1 s1
    cases e : isRay ns with
    | false =>
      rw [e] at hk
      exact ite_f rfl hk
    | true =>
      rw [e, Bool.true_and] at hk
      refine ite_t rfl ⟨_, rfl, _, _, rfl, .inr ⟨_, hq.ext s1, rfl⟩, _, rfl, rfl, ?_⟩
      have e2 : decide (V.int ((ns.map V.int).length : Int) = V.int n) = decide ((ns.length : Int) = n) := by simp
      rw [e2]
      exact hk
/-! length_by: 15 -/
def spLen : Sp := fun vs H Q _ => ∃ v ns, vs = [v] ∧ TupI K H v ns ∧ ns.length ≤ sizeLine ∧ Far ns ∧ ∀ H', Same H H' → Q (.int (dot ns ns)) H'
theorem sc_len : FnScope ["ray"] ["ray"] (defScope (top 13)) := ⟨rfl, rfl, rfl, by decide +kernel, rfl, by decide +kernel, by decide +kernel⟩
theorem c_len (D : DefAt K mg "length_by" (top 13)) (C1 : Cal P w K mg base "dot_by" 1 ["one", "other"] (spDot (K := K))) : Cal P w K mg base "length_by" 2 ["ray"] (spLen (K := K)) := by
  refine cal_mk D sc_len (fun _ _ _ _ _ _ us hl => match us, hl with | [_], _ => rfl) (fun vs H Q E h => ?_) (fun cdv f A outer s H vs Q E hr h => ?_)
  · obtain ⟨v, ns, rfl, _⟩ := h
    rfl
  · obtain ⟨v, ns, rfl, hq, hz, hf, k⟩ := h
    refine ⟨_, pss_one (ps_ret (pe_cal C1 hr (pa_cons (pv 0) (pa_cons (pv 0) pa_nil)))), ?_⟩
    exact ⟨_, rfl, _, rfl, v, v, ns, ns, rfl, hq, hq, rfl, hz, hf, k⟩
/-! is_class_size: 12 -/
def spClass : Sp := fun vs H Q _ => ∃ i : Int, vs = [.int i] ∧ Q (.bl (decide (3 ≤ i) && decide (i ≤ 5))) H
theorem sc_class : FnScope ["thing"] ["thing"] (defScope (top 12)) := ⟨rfl, rfl, rfl, by decide +kernel, rfl, by decide +kernel, by decide +kernel⟩
theorem c_class (D : DefAt K mg "is_class_size" (top 12)) (h1 : ∃ t, mg "LEAST_CLASS" = some (.int 3 t)) (h2 : ∃ t, mg "MOST_CLASS" = some (.int 5 t)) (C1 : Cal P w K mg base "is_integer" 1 ["thing"] spIsInt) : Cal P w K mg base "is_class_size" 2 ["thing"] spClass := by
  obtain ⟨t1, h1⟩ := h1
  obtain ⟨t2, h2⟩ := h2
  refine cal_mk D sc_class (fun _ _ _ _ _ _ us hl => match us, hl with | [_], _ => rfl) (fun vs H Q E h => ?_) (fun cdv f A outer s H vs Q E hr h => ?_)
  · obtain ⟨i, rfl, _⟩ := h
    rfl
  · obtain ⟨i, rfl, k⟩ := h
    refine ⟨_, pss_one (ps_ret (pe_and (pe_cal C1 hr (pa_cons (pv 0) pa_nil)) (pe_one (pe_chain op_le op_le (pe_glob (v := .int 3) (by rfl) h1 ⟨_, rfl⟩) (pv 0) (pe_glob (v := .int 5) (by rfl) h2 ⟨_, rfl⟩))))), ?_⟩
    refine ⟨_, rfl, i, rfl, true, rfl, ite_t rfl ⟨_, rfl, _, _, rfl, rfl, _, rfl, ?_⟩⟩
    by_cases h : 3 ≤ i
    · refine ite_t (by simpa using h) ⟨_, _, rfl, rfl, ?_⟩
      rw [decide_eq_true h, Bool.true_and] at k
      exact k
    · refine ite_f (by simpa using h) ?_
      rw [decide_eq_false h, Bool.false_and] at k
      exact k
/-! want: 19 -/
def spWant : Sp := fun vs H Q _ => ∃ a b, vs = [.bl true, a, b] ∧ Q .non H
theorem sc_want : FnScope ["is_right", "name", "place"] ["is_right", "name", "place"] (defScope (top 19)) := ⟨rfl, rfl, rfl, by decide +kernel, rfl, by decide +kernel, by decide +kernel⟩
end
end RM
/-! Rightmarks k40: sets of ints, index in a tuple, data. -/
namespace RM
open PySem PySem.Spec PyProof.Rows L2
section
variable {X : Cx}
/-- set(t), t a tuple of ints -/
def rSetTI (K : PySem.W.Frag) (w : World) : List V → Hp → VK → Prop := fun xs H Q => ∃ (p : Addr) (ns : List Int), xs = [V.ref p] ∧ SqT K H p (ns.map V.int) ∧ ns.length < 64 ∧
  ∀ a c, H a = none → c ≤ ns.length → Q (.ref a) (upd H a (SetO w a (fun j => decide (j ∈ ns)) c))
theorem cr_setTI (hc : X.calm = true) : CallR X (.type "set") (rSetTI X.K X.w) := by
  intro pins s σ H xs us Q I r h
  obtain ⟨p, ns, rfl, hq, hl, q⟩ := h
  obtain ⟨u, rfl, ru⟩ := vals1 r
  cases ru
  obtain ⟨its, rv, pt, _⟩ := I.tuple hq
  have hi : IntsAre its.toArray.toList ns := ints_of_vals rv
  refine L2.call_set_tupI ns (I.ok.hd hc) pt hi (by unfold scanBound; omega) fun h' tk c R1 hcn k => ?_
  have hp : s.heap.objs.size ≤ s.heap.objs.size := Nat.le_refl _
  have hn : H s.heap.objs.size = none := I.hok.fresh hp
  exact ⟨.ref _, _, I.laid (t' := tk) k hp (setO_new R1), rfl, q _ c hn hcn⟩
/-- t.index(k), t a tuple of ints that holds k -/
def rIndexTI (K : PySem.W.Frag) : V → List V → Hp → VK → Prop := fun x xs H Q => ∃ (p : Addr) (ns : List Int) (k : Int), x = V.ref p ∧ xs = [.int k] ∧ SqT K H p (ns.map V.int) ∧ k ∈ ns ∧ Q (.int (ns.idxOf k : Nat)) H
theorem vals_at {ns : List Int} {us : List Value} (r : Vals (ns.map V.int) us) (j : Nat) (h1 : j < us.length) (h2 : j < ns.length) : ∃ t, us[j] = Value.int ns[j] t := by
  obtain ⟨u, hu, ru⟩ := r.get (i := j) (x := .int ns[j]) (by rw [List.getElem?_map, List.getElem?_eq_getElem h2]; rfl)
  obtain ⟨t, rfl⟩ := ru
  rw [List.getElem?_eq_getElem h1] at hu
  exact ⟨t, Option.some.inj hu⟩
theorem mt_indexTI : MtR X "tuple.index" (rIndexTI X.K) := by
  intro pins s σ H x xs v us Q I rx rs h
  obtain ⟨p, ns, k, rfl, rfl, hq, hk, q⟩ := h
  cases rx
  obtain ⟨u, rfl, ru⟩ := vals1 rs
  obtain ⟨its, rv, pt, _⟩ := I.tuple hq
  have hl : its.length = ns.length := by rw [← rv.length, List.length_map]
  refine PySem.SeqAt.call_tuple_index (ks := ns) pt ⟨hl, fun j h1 h2 => ?_⟩ hk ⟨.int _, H, I.tok _, ⟨_, rfl⟩, q⟩
  obtain ⟨t, e⟩ := vals_at rv j h1 h2
  have z := eqAt_V (A := X.A.in1) (s := s) (y := .int ns[j]) (x := .int k) ⟨t, e⟩ ru rfl rfl
  rw [show (decide (ns[j] = k)) = eqV (.int ns[j]) (.int k) from by
    show _ = (ns[j] == k)
    by_cases c : ns[j] = k
    · rw [decide_eq_true c, c, beq_self_eq_true]
    · rw [decide_eq_false c]
      exact (beq_eq_false_iff_ne.mpr c).symm]
  exact z
end
/-! ### data -/
def dT (ns : List Int) : PyData := .tuple (ns.map PyData.int)
def dL (Ls : List (List Int)) : PyData := .list (Ls.map dT)
theorem lay_ints : ∀ ns : List Int, PyData.canLayAll0 (ns.map PyData.int) = true
  | [] => rfl
  | n :: ns => by
    show (PyData.canLay0 (.int n) && PyData.canLayAll0 (ns.map PyData.int)) = true
    rw [lay_ints ns]; rfl
theorem lay_dTs : ∀ Ls : List (List Int), PyData.canLayAll0 (Ls.map dT) = true
  | [] => rfl
  | n :: ns => by
    show (PyData.canLayAll0 (n.map PyData.int) && PyData.canLayAll0 (ns.map dT)) = true
    rw [lay_ints n, lay_dTs ns]; rfl
theorem dep_ints : ∀ ns : List Int, PyData.depthAll (ns.map PyData.int) = 0
  | [] => rfl
  | n :: ns => by
    show max 0 (PyData.depthAll (ns.map PyData.int)) = 0
    rw [dep_ints ns]; rfl
theorem dep_dTs : ∀ Ls : List (List Int), PyData.depthAll (Ls.map dT) ≤ 1
  | [] => by decide
  | n :: ns => by
    show max (PyData.depthAll (n.map PyData.int) + 1) (PyData.depthAll (ns.map dT)) ≤ 1
    have := dep_dTs ns
    rw [dep_ints n]; omega
theorem eqv_ints : ∀ ns ms : List Int, PyData.eqvAll (ns.map PyData.int) (ms.map PyData.int) = decide (ns = ms)
  | [], [] => rfl
  | [], _ :: _ => rfl
  | _ :: _, [] => rfl
  | n :: ns, m :: ms => by
    show ((n == m) && PyData.eqvAll (ns.map PyData.int) (ms.map PyData.int)) = _
    rw [eqv_ints ns ms, Bool.eq_iff_iff]
    simp
theorem eqv_dTs : ∀ ns ms : List (List Int), PyData.eqvAll (ns.map dT) (ms.map dT) = decide (ns = ms)
  | [], [] => rfl
  | [], _ :: _ => rfl
  | _ :: _, [] => rfl
  | n :: ns, m :: ms => by
    show (PyData.eqvAll (n.map PyData.int) (m.map PyData.int) && PyData.eqvAll (ns.map dT) (ms.map dT)) = _
    rw [eqv_ints n m, eqv_dTs ns ms, Bool.eq_iff_iff]
    simp
theorem eqv_dT (ns ms : List Int) : PyData.eqv (dT ns) (dT ms) = decide (ns = ms) := eqv_ints ns ms
theorem eqv_dL (ns ms : List (List Int)) : PyData.eqv (dL ns) (dL ms) = decide (ns = ms) := eqv_dTs ns ms
theorem any_dT (x : List Int) : ∀ Ls : List (List Int), ((Ls.map dT).any fun z => PyData.eqv z (dT x)) = Ls.contains x
  | [] => rfl
  | n :: ns => by
    rw [List.map_cons, List.any_cons, any_dT x ns, eqv_dT, List.contains_cons]
    refine congrArg (· || _) ?_
    by_cases c : n = x
    · rw [decide_eq_true c, c, beq_self_eq_true]
    · rw [decide_eq_false c, beq_eq_false_iff_ne.mpr (Ne.symm c)]
theorem shp_dT (ns : List Int) : SeqAt.shaped (dT ns) = true := by
  show (PyData.canLayAll0 (ns.map PyData.int) && decide (PyData.depthAll (ns.map PyData.int) + 1 ≤ 64)) = true
  rw [lay_ints, dep_ints]; rfl
theorem shp_dL (Ls : List (List Int)) : SeqAt.shaped (dL Ls) = true := by
  show (PyData.canLayAll0 (Ls.map dT) && decide (PyData.depthAll (Ls.map dT) + 1 ≤ 64)) = true
  have := dep_dTs Ls
  rw [lay_dTs, decide_eq_true (by omega)]; rfl
theorem shp_ints (ns : List Int) : SeqAt.shaped (.list (ns.map PyData.int)) = true := by
  show (PyData.canLayAll0 (ns.map PyData.int) && decide (PyData.depthAll (ns.map PyData.int) + 1 ≤ 64)) = true
  rw [lay_ints, dep_ints]; rfl
theorem dp_ints {K : PySem.W.Frag} {H : Hp} : ∀ ns : List Int, DpAll K H (ns.map V.int) (ns.map PyData.int)
  | [] => .nil
  | n :: ns => .cons (.int n) (dp_ints ns)
theorem dp_tup {K : PySem.W.Frag} {H : Hp} {v : V} {ns : List Int} (h : TupI K H v ns) : Dp K H v (dT ns) := by
  obtain ⟨t, rfl, q⟩ := h
  exact .tup q (dp_ints ns)
theorem dp_all {K : PySem.W.Frag} {H : Hp} : ∀ {vs : List V} {Ls : List (List Int)}, Paired (gT K H) vs Ls → DpAll K H vs (Ls.map dT)
  | _, _, .nil => .nil
  | _, _, .cons h t => .cons (dp_tup h) (dp_all t)
theorem dp_list {K : PySem.W.Frag} {H : Hp} {a : Addr} {vs : List V} {Ls : List (List Int)} (q : SqL K H a vs) (h : Paired (gT K H) vs Ls) : Dp K H (.ref a) (dL Ls) := .lst q (dp_all h)
theorem pr_same {K : PySem.W.Frag} {H H' : Hp} {vs : List V} {Ls : List (List Int)} (h : Paired (gT K H) vs Ls) (s : Same H H') : Paired (gT K H') vs Ls := pr_ext h fun _ _ _ g => tupI_same g s
theorem inV_ints (x : Int) : ∀ ns : List Int, inV (.int x) (ns.map V.int) = ns.contains x
  | [] => rfl
  | n :: ns => by
    show ((n == x) || inV (.int x) (ns.map V.int)) = _
    rw [inV_ints x ns, List.contains_cons]
    refine congrArg (· || _) ?_
    by_cases c : n = x
    · rw [c]
    · rw [beq_eq_false_iff_ne.mpr c, beq_eq_false_iff_ne.mpr (Ne.symm c)]
theorem flat_ints : ∀ ns : List Int, (ns.map V.int).all flatV = true
  | [] => rfl
  | n :: ns => flat_ints ns
/-- numbers in a list or in a tuple, by a name -/
def iSeq (K : PySem.W.Frag) (i : Nat) : TI := fun σ H R => ∃ a, σ[i]? = some (some (.ref a)) ∧ (((∃ xs, SqL K H a xs) ∧ R (Itl K a) H) ∨ ((∃ xs, SqT K H a xs) ∧ R (Itt K a) H))
theorem pi_seq {X : Cx} {i : Nat} {tg l : Expr} (hl : PE X l (tVar i)) : PI X tg l (iSeq X.K i) := by
  refine ⟨fun pins s σ H R I h => ?_⟩
  obtain ⟨a, e, ⟨hx, r⟩ | ⟨hx, r⟩⟩ := h
  · exact (pi_list (tg := tg) hl).run pins s σ H R I ⟨_, e, a, rfl, hx, r⟩
  · exact (pi_tup (tg := tg) hl).run pins s σ H R I ⟨_, e, a, rfl, hx, r⟩
/-! ### a def with one default -/
structure CalD (P : Program) (w : World) (K : PySem.W.Frag) (mg : Str → Option Value) (base : Heap) (x : Str) (k : Nat) (ps : List Str) (dv : V) (sp : Sp) : Prop where
  ex : ∃ f fd ds, FnOk P w K mg base CX0 k f fd ps sp ∧ Vals [dv] ds ∧ Binds K fd ps ds ∧ PySem.W.keepIn K (.ref f) = true ∧ mg x = some (.ref f)
def DefAt1 (K : PySem.W.Frag) (mg : Str → Option Value) (x : Str) (st : Stmt) (dv : V) : Prop := ∃ f fd, FunD K x x (defArgs st) (defBody st) (defScope st) [dv] [] f fd ∧ mg x = some (.ref f)
section
variable {P : Program} {w : World} {K : PySem.W.Frag} {mg : Str → Option Value} {base : Heap}
theorem c_want (D : DefAt1 K mg "want" (top 19) (.int (-1))) : CalD P w K mg base "want" 1 ["is_right", "name", "place"] (.int (-1)) spWant := by
  obtain ⟨f, fd, F, hm⟩ := D
  obtain ⟨ds, rv, hb⟩ := F.binds1 (ps := ["is_right", "name", "place"]) 2 0 (by decide) rfl fun T kV doc pm an cdv ct us its h1 h2 => by
    match us, its, h1, h2 with
    | [a, b], [c], _, _ => exact ⟨_, rfl, rfl⟩
  refine ⟨f, fd, ds, F.ok sc_want (fun vs H Q E h => ?_) (fun cdv A outer s H vs Q E hr h => ?_), rv, hb, F.kp, hm⟩
  · obtain ⟨a, b, rfl, _⟩ := h
    rfl
  · obtain ⟨a, b, rfl, k⟩ := h
    refine ⟨_, pss_one (ps_if (pt_not (pt_val (pv 0))) pss_never pss_nil), ?_⟩
    exact ⟨_, rfl, _, rfl, ite_f rfl k⟩
theorem pe_want {X : Cx} {k : Nat} {e1 e2 : Expr} {t1 t2 : TE} {p pos : Pos} (c : CalD X.prog X.w X.K X.mg X.base "want" k ["is_right", "name", "place"] (.int (-1)) spWant) (hr : Room k X.A) (h1 : PE X e1 t1) (h2 : PE X e2 t2) (hg : Gl X "want") 
    (he : starEach [e1, e2] X.env = (false, eval e1 X.env) :: starEach [e2] X.env := by rfl) (hpl : (backTo pos (starEach [e2] X.env)).any (·.1) = false := by rfl) (hs2 : starEach [e2] X.env = (false, eval e2 X.env) :: starEach [] X.env := by rfl) :
    PE X (.Call (.Name "want" p) [e1, e2] [] pos) (tCall spWant [.int (-1)] E0 (tCons t1 (tCons t2 tNil))) := by
  obtain ⟨f, fd, ds, F, rv, b, kp, hm⟩ := c.ex
  exact pe_call F hr hg hm kp b rv pass0 (pa_cons h1 (pa_cons h2 pa_nil hs2) he) (by decide) he hpl
end
end RM
namespace RM
open PySem PySem.Spec PyProof.Rows L2
/-- the rests of one rule, as they stand for good -/
def RestP (K : PySem.W.Frag) (r : Addr) (p : Nat × Nat) : Prop := ∃ xs, (∀ H, SqT K H r xs) ∧ ∀ H, Paired (gT K H) xs (tab p.1 p.2)
def RowP (K : PySem.W.Frag) (v : V) (p : Nat × Nat) : Prop := ∃ a r, v = .ref a ∧ (∀ H, SqT K H a [.int (p.1 : Int), .int (p.2 : Int), .ref r]) ∧ RestP K r p
structure RulesK (K : PySem.W.Frag) (mg : Str → Option Value) : Prop where
  rules : ∃ R es, mg "RULES" = some (.ref R) ∧ (∀ H, SqT K H R es) ∧ Paired (RowP K) es rules
  fourth : ∃ F, mg "FOURTH_RESTS" = some (.ref F) ∧ ∀ H, SqT K H F (([1, 2, 3, 6, 9, 11] : List Int).map V.int)
section
variable {K : PySem.W.Frag} {R : Addr} {es : List V} {g : TG} {tt : TT} {te : TE} {vs : List Nat} {σ : L2.St} {H1 : Hp} {D : Addr} {Qd : Hp → Prop}
theorem lcRows (hq : ∀ H, SqT K H R es) (hp : Paired (RowP K) es rules) (S : V → V → V → L2.St) (hg : ∀ a x y z H (Q : L2.St → Hp → Prop), SqT K H a [x, y, z] → Q (S x y z) H → g (.ref a) (wipe σ vs) H Q) (hw : ∀ x y z, wipe (S x y z) vs = wipe σ vs) (p : Nat × Nat → Bool) (G : V → Nat × Nat → Prop)
    (ht : ∀ (b : Nat × Nat) r H (Q : Bool → Hp → Prop), Q (p b) H → tt (S (.int (b.1 : Int)) (.int (b.2 : Int)) (.ref r)) H Q) (he : ∀ (b : Nat × Nat) r H (Q : VK), RestP K r b → (∀ y, G y b → Q y H) → te (S (.int (b.1 : Int)) (.int (b.2 : Int)) (.ref r)) H Q)
    (hd : ∀ ys, Paired G ys (rules.filter p) → Qd (upd H1 D (.lst ys))) :
    ∃ W : Nat → Nat → Hp → Prop, (∃ m, W 0 m (upd H1 D (.lst []))) ∧ ∀ j m H, W j m H →
      ((Itt K R).stop j H ∧ Qd H) ∨ ((Itt K R).go j H ∧ ∃ Nx : Hp → Prop, (∀ H', Nx H' → ∃ m', m' < m ∧ W (j + 1) m' H') ∧ ∀ x H', (Itt K R).yld j H x H' → g x (wipe σ vs) H' fun σ2 H2 => wipe σ2 vs = wipe σ vs ∧ tt σ2 H2 fun b H3 =>
        if b = true then te σ2 H3 fun y H4 => ∃ acc, H4 D = some (.lst acc) ∧ acc.length < sizeLine ∧ Nx (upd H4 D (.lst (acc ++ [y]))) else Nx H3) := by
  refine lc_tup (xs := es) (fun i H => ∃ acc, H = upd H1 D (.lst acc) ∧ Paired G acc ((rules.take i).filter p)) ⟨[], rfl, .nil⟩ (fun i H _ _ => hq H) ?_ ?_
  · rintro i x H hx ⟨acc, rfl, pa⟩
    obtain ⟨b, hb, a, r, rfl, ha, hr⟩ := pr_get hp hx
    have st : (rules.take (i + 1)).filter p = (rules.take i).filter p ++ if p b then [b] else [] := by
      rw [List.take_add_one, hb]
      cases e : p b <;> simp [e]
    refine hg a _ _ _ _ _ (ha _) ⟨hw _ _ _, ht b r _ _ ?_⟩
    cases e : p b with
    | false =>
      refine ite_f rfl ⟨acc, rfl, ?_⟩
      rw [st, e]
      simpa using pa
    | true =>
      refine ite_t rfl (he b r _ _ hr fun y gy => ⟨acc, upd_same, ?_, acc ++ [y], upd_upd, ?_⟩)
      · rw [pa.length]
        have h1 := List.length_filter_le p (rules.take i)
        have h2 : (rules.take i).length ≤ rules.length := List.length_take_le' i rules
        have h3 : rules.length = 5 := rfl
        have h4 := sizeLine_eq
        omega
      · rw [st, e]
        exact pr_append pa (.cons gy .nil)
  · rintro H ⟨acc, rfl, pa⟩
    refine hd acc ?_
    have e : rules.take es.length = rules := by rw [hp.length, List.take_length]
    rw [e] at pa
    exact pa
end
section
variable {P : Program} {w : World} {K : PySem.W.Frag} {mg : Str → Option Value} {base : Heap}
/-! moduli_by: 28 -/
def moduli (n : Int) : List Int := (rules.filter fun p => decide ((p.1 : Int) = n)).map fun p => (p.2 : Int)
def spModuli : Sp := fun vs H Q _ => ∃ n : Int, vs = [.int n] ∧ ∀ H' t, Same H H' → SqT K H' t ((moduli n).map V.int) → Q (.ref t) H'
theorem sc_moduli : FnScope ["size", "own", "modulus", "rests"] ["size"] (defScope (top 28)) := ⟨rfl, rfl, rfl, by decide +kernel, rfl, by decide +kernel, by decide +kernel⟩
theorem c_moduli (T : Tx K mg) (RK : RulesK K mg) (D : DefAt K mg "moduli_by" (top 28)) : Cal P w K mg base "moduli_by" 1 ["size"] (spModuli (K := K)) := by
  obtain ⟨R, es, hm, hqR, hpR⟩ := RK.rules
  refine cal_mk D sc_moduli (fun _ _ _ _ _ _ us hl => match us, hl with | [_], _ => rfl) (fun vs H Q E h => ?_) (fun cdv f A outer s H vs Q E hr h => ?_)
  · obtain ⟨n, rfl, _⟩ := h
    rfl
  · obtain ⟨n, rfl, k⟩ := h
    refine ⟨_, pss_one (ps_ret (pe_tupleOf (by rfl) T.tuple (pe_lc (own := [("own", 1), ("modulus", 2), ("rests", 3)]) (g := gTup K 3 (gCons (gName 1) (gCons (gName 2) (gCons (gName 3) gNil)))) (tt := tTest (tOp rEq (tVar 1) (tVar 0))) (te := tVar 2) rfl sc_moduli.nd (pi_tup (pe_glob (v := .ref R) (by rfl) hm rfl))
        (blkOk_by (N := ["size", "own", "modulus", "rests"]) (sc := defScope (top 28)) (by decide +kernel)) (fun _ _ _ _ _ => pg_tup rfl (pgs_cons (pg_name (i := 1) sc_moduli.nd rfl (Or.inl rfl)) (pgs_cons (pg_name (i := 2) sc_moduli.nd rfl (Or.inl rfl)) (pgs_cons (pg_name (i := 3) sc_moduli.nd rfl (Or.inl rfl)) pgs_nil))))
        (fun _ _ _ _ _ => pts_one (pt_cmpR op_eq (pv 1) (pv 0) (nomark _))) (fun _ _ _ _ _ => pv 2)))), ?_⟩
    refine ⟨R, rfl, ⟨_, hqR _⟩, fun D hD => lcRows hqR hpR (fun x y z => [some (.int n), some x, some y, some z]) (fun a x y z H Q q h => ⟨a, _, rfl, q, rfl, _, _, rfl, _, _, rfl, _, _, rfl, rfl, h⟩) (fun x y z => rfl) (fun p => decide ((p.1 : Int) = n)) (fun v p => v = .int (p.2 : Int)) (fun b r H Q q => ?_) (fun b r H Q _ q => ⟨_, rfl, q _ rfl⟩) fun ys pr => ?_⟩
    · refine ⟨_, rfl, _, rfl, rfl, _, rfl, ?_⟩
      have e : decide (V.int (b.1 : Int) = V.int n) = decide ((b.1 : Int) = n) := by simp
      rw [e]
      exact q
    · refine .inl ⟨D, ys, rfl, SqL.of upd_same, fun q hq => k _ q ((same_upd hD).trans (same_upd hq)) (SqT.of ?_)⟩
      have e : ys = (moduli n).map V.int := by
        have h : Paired (fun (v : V) (m : Int) => v = .int m) ys (moduli n) := by
          have := pr_map (R := fun (v : V) (m : Int) => v = .int m) (fun p : Nat × Nat => V.int (p.2 : Int)) (fun p : Nat × Nat => (p.2 : Int)) (rules.filter fun p => decide ((p.1 : Int) = n)) fun _ _ => rfl
          have e2 : ys = (rules.filter fun p => decide ((p.1 : Int) = n)).map fun p => V.int (p.2 : Int) := by
            have go : ∀ (a : List V) (b : List (Nat × Nat)), Paired (fun (v : V) (p : Nat × Nat) => v = .int (p.2 : Int)) a b → a = b.map fun p => V.int (p.2 : Int) := by
              intro a b hab
              induction hab with
              | nil => rfl
              | cons h _ ih => rw [List.map_cons, ← h, ← ih]
            exact go _ _ pr
          rw [e2]
          exact this
        exact pr_int_eq h
      rw [← e]
      exact upd_same
/-! is_modulus: 29 -/
def spIsMod : Sp := fun vs H Q _ => ∃ p : Nat × Nat, vs = [.int (p.1 : Int), .int (p.2 : Int)] ∧ p ∈ rules ∧ ∀ H', Same H H' → Q (.bl true) H'
theorem sc_ismod : FnScope ["size", "thing"] ["size", "thing"] (defScope (top 29)) := ⟨rfl, rfl, rfl, by decide +kernel, rfl, by decide +kernel, by decide +kernel⟩
theorem c_ismod (D : DefAt K mg "is_modulus" (top 29)) (C1 : Cal P w K mg base "is_integer" 1 ["thing"] spIsInt) (C2 : Cal P w K mg base "moduli_by" 1 ["size"] (spModuli (K := K))) : Cal P w K mg base "is_modulus" 2 ["size", "thing"] spIsMod := by
  refine cal_mk D sc_ismod (fun _ _ _ _ _ _ us hl => match us, hl with | [_, _], _ => rfl) (fun vs H Q E h => ?_) (fun cdv f A outer s H vs Q E hr h => ?_)
  · obtain ⟨n, rfl, _⟩ := h
    rfl
  · obtain ⟨p, rfl, hp, k⟩ := h
    refine ⟨_, pss_one (ps_ret (pe_and (pe_cal C1 hr (pa_cons (pv 1) pa_nil)) (pe_one (pe_cmpR op_in_seq (pv 1) (pe_cal C2 hr (pa_cons (pv 0) pa_nil)) rfl)))), ?_⟩
    refine ⟨_, rfl, _, rfl, true, rfl, ite_t rfl ⟨_, rfl, _, rfl, _, rfl, fun H' t s q => ⟨t, _, rfl, .inr q, rfl, flat_ints _, ?_⟩⟩⟩
    rw [inV_ints, show (moduli (p.1 : Int)).contains (p.2 : Int) = true from by
      have : ∀ p ∈ rules, (moduli (p.1 : Int)).contains (p.2 : Int) = true := by decide
      exact this p hp]
    exact k H' s
/-! rests_by: 30 -/
def spRestsBy : Sp := fun vs H Q _ => ∃ p : Nat × Nat, vs = [.int (p.1 : Int), .int (p.2 : Int)] ∧ p ∈ rules ∧ ∀ H' r, Same H H' → RestP K r p → Q (.ref r) H'
theorem sc_restsby : FnScope ["size", "modulus", "own", "late", "rests"] ["size", "modulus"] (defScope (top 30)) := ⟨rfl, rfl, rfl, by decide +kernel, rfl, by decide +kernel, by decide +kernel⟩
theorem c_restsby (RK : RulesK K mg) (D : DefAt K mg "rests_by" (top 30)) : Cal P w K mg base "rests_by" 1 ["size", "modulus"] (spRestsBy (K := K)) := by
  obtain ⟨R, es, hm, hqR, hpR⟩ := RK.rules
  refine cal_mk D sc_restsby (fun _ _ _ _ _ _ us hl => match us, hl with | [_, _], _ => rfl) (fun vs H Q E h => ?_) (fun cdv f A outer s H vs Q E hr h => ?_)
  · obtain ⟨n, rfl, _⟩ := h
    rfl
  · obtain ⟨p, rfl, hp, k⟩ := h
    refine ⟨_, pss_one (ps_ret (pe_ix ix_list (pe_lc (own := [("own", 2), ("late", 3), ("rests", 4)]) (g := gTup K 3 (gCons (gName 2) (gCons (gName 3) (gCons (gName 4) gNil)))) (tt := tAnd (tTest (tOp rEq (tVar 2) (tVar 0))) (tTest (tOp rEq (tVar 3) (tVar 1)))) (te := tVar 4) rfl sc_restsby.nd (pi_tup (pe_glob (v := .ref R) (by rfl) hm rfl))
        (blkOk_by (N := ["size", "modulus", "own", "late", "rests"]) (sc := defScope (top 30)) (by decide +kernel)) (fun _ _ _ _ _ => pg_tup rfl (pgs_cons (pg_name (i := 2) sc_restsby.nd rfl (Or.inl rfl)) (pgs_cons (pg_name (i := 3) sc_restsby.nd rfl (Or.inl rfl)) (pgs_cons (pg_name (i := 4) sc_restsby.nd rfl (Or.inl rfl)) pgs_nil))))
        (fun _ _ _ _ _ => pts_one (PW.pt (pw_and (pt_cmpR op_eq (pv 2) (pv 0) (nomark _)) (pw_and1 (pt_cmpR op_eq (pv 3) (pv 1) (nomark _)))))) (fun _ _ _ _ _ => pv 4)) pe_int (fun _ _ => rfl))), ?_⟩
    refine ⟨R, rfl, ⟨_, hqR _⟩, fun D hD => lcRows hqR hpR (fun x y z => [some (.int p.1), some (.int p.2), some x, some y, some z]) (fun a x y z H Q q h => ⟨a, _, rfl, q, rfl, _, _, rfl, _, _, rfl, _, _, rfl, rfl, h⟩) (fun x y z => rfl) (fun b => decide (b = p)) (fun v b => ∃ r, v = .ref r ∧ RestP K r b) (fun b r H Q q => ?_) (fun b r H Q hr q => ⟨_, rfl, q _ ⟨r, rfl, hr⟩⟩) fun ys pr => ?_⟩
    · refine ⟨_, rfl, _, rfl, rfl, _, rfl, ?_⟩
      by_cases h1 : b.1 = p.1
      · refine ite_t (by rw [h1]; simp) ⟨_, rfl, _, rfl, rfl, _, rfl, ?_⟩
        have e : decide (V.int (b.2 : Int) = V.int (p.2 : Int)) = decide (b = p) := by
          rw [Bool.eq_iff_iff]
          simp [Prod.ext_iff, h1, Int.ofNat_inj]
        rw [e]
        exact q
      · refine ite_f (by simp [Int.ofNat_inj, h1]) ?_
        have e : decide (b = p) = false := decide_eq_false fun e => h1 (by rw [e])
        rw [← e]
        exact q
    · have e : rules.filter (fun b => decide (b = p)) = [p] := by
        have : ∀ p ∈ rules, rules.filter (fun b => decide (b = p)) = [p] := by decide
        exact this p hp
      rw [e] at pr
      cases pr with
      | cons h t => cases t with
        | nil =>
          obtain ⟨r, rfl, hr⟩ := h
          exact ⟨D, [.ref r], _, _, rfl, rfl, SqL.of upd_same, atI_nat (j := 0) rfl, k _ r (same_upd hD) hr⟩
end
end RM
namespace RM
open PySem PySem.Spec PyProof.Rows L2
/-- ints in a list or in a tuple -/
def SeqI (K : PySem.W.Frag) (H : Hp) (v : V) (ns : List Int) : Prop := ∃ a, v = .ref a ∧ (SqL K H a (ns.map V.int) ∨ SqT K H a (ns.map V.int))
theorem seqI_same {K : PySem.W.Frag} {H H' : Hp} {v : V} {ns : List Int} (h : SeqI K H v ns) (s : Same H H') : SeqI K H' v ns := by
  obtain ⟨a, rfl, q | q⟩ := h
  · exact ⟨a, rfl, .inl (q.ext s)⟩
  · exact ⟨a, rfl, .inr (q.ext s)⟩
section
variable {β α : Type} {K : PySem.W.Frag} {xs : List V} {bs : List β} {R : V → β → Prop} {i j : Nat} {tt : TT} {te : TE} {σ : L2.St} {H : Hp} {Q : VK} {G : Hp → V → α → Prop} {p : β → Bool} {f : β → α} {a : Addr}
theorem lc_seq (hi : σ[i]? = some (some (.ref a))) (hp : Paired R xs bs) (hs : SqL K H a xs ∨ SqT K H a xs) (hz : bs.length ≤ sizeLine) (hG : ∀ D, Stb D G) (ht : LcT R bs j σ H tt p) (he : LcE R bs j σ H te p G f)
    (hd : ∀ D, H D = none → LcD bs H D p G f fun H' => Q (.ref D) H') : tLc (iSeq K i) (gName j) tt te [j] σ H Q := by
  refine ⟨a, hi, ?_⟩
  rcases hs with q | q
  · exact .inl ⟨⟨_, q⟩, fun D hD => lcL hp q hD hz (hG D) ht he (hd D hD)⟩
  · exact .inr ⟨⟨_, q⟩, fun D hD => lcTu hp q hD hz (hG D) ht he (hd D hD)⟩
theorem lc_tupv {i : Nat} (hi : σ[i]? = some (some (.ref a))) (hp : Paired R xs bs) (q : SqT K H a xs) (hz : bs.length ≤ sizeLine) (hG : ∀ D, Stb D G) (ht : LcT R bs j σ H tt p) (he : LcE R bs j σ H te p G f)
    (hd : ∀ D, H D = none → LcD bs H D p G f fun H' => Q (.ref D) H') : tLc (iTup K (tVar i)) (gName j) tt te [j] σ H Q :=
  ⟨_, hi, a, rfl, ⟨_, q⟩, fun D hD => lcTu hp q hD hz (hG D) ht he (hd D hD)⟩
theorem lc_listv {i : Nat} (hi : σ[i]? = some (some (.ref a))) (hp : Paired R xs bs) (q : SqL K H a xs) (hz : bs.length ≤ sizeLine) (hG : ∀ D, Stb D G) (ht : LcT R bs j σ H tt p) (he : LcE R bs j σ H te p G f)
    (hd : ∀ D, H D = none → LcD bs H D p G f fun H' => Q (.ref D) H') : tLc (iList K (tVar i)) (gName j) tt te [j] σ H Q :=
  ⟨_, hi, a, rfl, ⟨_, q⟩, fun D hD => lcL hp q hD hz (hG D) ht he (hd D hD)⟩
end
theorem int_unique : ∀ {l k : List Int}, l.Pairwise (· < ·) → k.Pairwise (· < ·) → (∀ x, x ∈ l ↔ x ∈ k) → l = k
  | [], [], _, _, _ => rfl
  | [], b :: k, _, _, h => by simpa using (h b).mpr (List.mem_cons_self ..)
  | a :: l, [], _, _, h => by simpa using (h a).mp (List.mem_cons_self ..)
  | a :: l, b :: k, h1, h2, h => by
    obtain ⟨p1, q1⟩ := List.pairwise_cons.mp h1
    obtain ⟨p2, q2⟩ := List.pairwise_cons.mp h2
    have e : a = b := by
      rcases List.mem_cons.mp ((h a).mp (List.mem_cons_self ..)) with e | m
      · exact e
      · rcases List.mem_cons.mp ((h b).mpr (List.mem_cons_self ..)) with e | m'
        · exact e.symm
        · have := p1 b m'
          have := p2 a m
          omega
    subst e
    rw [int_unique q1 q2 fun x => ⟨fun m => (List.mem_cons.mp ((h x).mp (List.mem_cons_of_mem _ m))).resolve_left (by have := p1 x m; omega), fun m => (List.mem_cons.mp ((h x).mpr (List.mem_cons_of_mem _ m))).resolve_left (by have := p2 x m; omega)⟩]
/-- orders as ints -/
def oI (t : List Nat) : List Int := t.map fun (k : Nat) => (k : Int)
def ordOk (p : Nat × Nat) (t : List Nat) : Bool := decide (t.length = p.1) && t.all (fun k => decide (k < p.1)) && (List.range p.1).all (fun k => t.contains k)
theorem ord_ok : ∀ p ∈ rules, ∀ t ∈ permsOf p.1, ordOk p t = true := by decide +kernel
theorem ord_facts {p : Nat × Nat} (hp : p ∈ rules) {t : List Nat} (ht : t ∈ permsOf p.1) : t.length = p.1 ∧ (∀ k ∈ t, k < p.1) ∧ ∀ k, k < p.1 → k ∈ t := by
  have h := ord_ok p hp t ht
  unfold ordOk at h
  simp only [Bool.and_eq_true, decide_eq_true_eq, List.all_eq_true, List.mem_range, List.contains_iff_mem] at h
  exact ⟨h.1.1, h.1.2, h.2⟩
theorem rule_small {p : Nat × Nat} (hp : p ∈ rules) : 3 ≤ p.1 ∧ p.1 ≤ 5 ∧ 2 ≤ p.2 ∧ p.2 ≤ 4 := by
  have : ∀ p ∈ rules, 3 ≤ p.1 ∧ p.1 ≤ 5 ∧ 2 ≤ p.2 ∧ p.2 ≤ 4 := by decide
  exact this p hp
section
variable {P : Program} {w : World} {K : PySem.W.Frag} {mg : Str → Option Value} {base : Heap}
/-! rest_by: 31 -/
def spRest : Sp := fun vs H Q _ => ∃ v ns, ∃ m : Nat, vs = [.int (m : Int), v] ∧ SeqI K H v ns ∧ 0 < m ∧ ns.length ≤ sizeLine ∧ ∀ H' y, Same H H' → TupI K H' y (canon m ns) → Q y H'
theorem sc_rest : FnScope ["modulus", "numbers", "one", "other", "number"] ["modulus", "numbers"] (defScope (top 31)) := ⟨rfl, rfl, rfl, by decide +kernel, rfl, by decide +kernel, by decide +kernel⟩
theorem filter_true {α : Type} (l : List α) : l.filter (fun _ => true) = l := List.filter_eq_self.mpr fun _ _ => rfl
theorem c_rest (T : Tx K mg) (D : DefAt K mg "rest_by" (top 31)) : Cal P w K mg base "rest_by" 1 ["modulus", "numbers"] (spRest (K := K)) := by
  refine cal_mk D sc_rest (fun _ _ _ _ _ _ us hl => match us, hl with | [_, _], _ => rfl) (fun vs H Q E h => ?_) (fun cdv f A outer s H vs Q E hr h => ?_)
  · obtain ⟨v, ns, m, rfl, _⟩ := h
    rfl
  · obtain ⟨v, ns, m, rfl, ⟨a, rfl, hs⟩, hm, hz, k⟩ := h
    refine ⟨_, pss_cons (ps_set (i := 2) sc_rest.nd rfl (Or.inl rfl) (pe_tupleOf (by rfl) T.tuple (pe_lc (own := [("number", 4)]) (g := gName 4) (tt := tYes) (te := tOp (rI (fun _ j => 0 < j) fun i j => .int (i % j)) (tVar 4) (tVar 0)) rfl sc_rest.nd (pi_seq (pv 1))
        (blkOk_by (N := ["modulus", "numbers", "one", "other", "number"]) (sc := defScope (top 31)) (by decide +kernel)) (fun _ _ _ _ _ => pg_name (i := 4) sc_rest.nd rfl (Or.inl rfl)) (fun _ _ _ _ _ => pts_nil) (fun _ _ _ _ _ => pe_op op_mod (pv 4) (pv 0)))))
      (pss_cons (ps_set (i := 3) sc_rest.nd rfl (Or.inl rfl) (pe_tupleOf (by rfl) T.tuple (pe_lc (own := [("number", 4)]) (g := gName 4) (tt := tYes) (te := tOp (rI (fun _ j => 0 < j) fun i j => .int (i % j)) (tUn (rU fun i => .int (-i)) (tVar 4)) (tVar 0)) rfl sc_rest.nd (pi_seq (pv 1))
        (blkOk_by (N := ["modulus", "numbers", "one", "other", "number"]) (sc := defScope (top 31)) (by decide +kernel)) (fun _ _ _ _ _ => pg_name (i := 4) sc_rest.nd rfl (Or.inl rfl)) (fun _ _ _ _ _ => pts_nil) (fun _ _ _ _ _ => pe_op op_mod (pe_un un_neg (pv 4)) (pv 0)))))
      (pss_one (ps_ret (pe_ifExp (pt_cmpR (op_ltT hr.units0) (pv 2) (pv 3) (nomark _)) (pv 2) (pv 3))))), ?_⟩
    have hm' : (0 : Int) < m := by omega
    dsimp only [tSeq, tAsg, tThen]
    refine lc_seq (i := 1) (j := 4) (a := a) (σ := [some (.int (m : Int)), some (.ref a), none, none, none]) (G := gI) (p := fun _ => true) (f := fun x => x % (m : Int)) rfl (pr_int ns) hs hz (fun _ => stbI) (lcT_yes fun _ => rfl) ?_ ?_
    · rintro v b _ rfl _ H' s Q q
      exact ⟨_, rfl, _, rfl, _, _, rfl, rfl, hm', q _ _ (fun _ _ e => e) rfl⟩
    · intro D1 hD1 H1 ys s1 hd1 pr1
      rw [filter_true] at pr1
      have e1 := pr_int_eq pr1
      subst e1
      refine .inl ⟨D1, _, rfl, SqL.of hd1, fun t1 ht1 => ?_⟩
      have s1' := s1.trans (same_upd (o := .tup ((ns.map fun x => x % (m : Int)).map V.int)) ht1)
      have hs1 : SqL K _ a (ns.map V.int) ∨ SqT K _ a (ns.map V.int) := hs.imp (fun q => q.ext s1') (fun q => q.ext s1')
      dsimp only [gName, tSeq, tAsg, tThen]
      refine lc_seq (i := 1) (j := 4) (a := a) (σ := [some (.int (m : Int)), some (.ref a), some (.ref t1), none, none]) (G := gI) (p := fun _ => true) (f := fun x => -x % (m : Int)) rfl (pr_int ns) hs1 hz (fun _ => stbI) (lcT_yes fun _ => rfl) ?_ ?_
      · rintro v b _ rfl _ H' s Q q
        exact ⟨_, rfl, _, rfl, _, rfl, _, _, rfl, rfl, hm', q _ _ (fun _ _ e => e) rfl⟩
      · intro D2 hD2 H2 ys s2 hd2 pr2
        rw [filter_true] at pr2
        have e2 := pr_int_eq pr2
        subst e2
        refine .inl ⟨D2, _, rfl, SqL.of hd2, fun t2 ht2 => ?_⟩
        have q1 : SqT K _ t1 ((ns.map fun x => x % (m : Int)).map V.int) := (SqT.of upd_same).ext (s2.trans (same_upd (o := .tup ((ns.map fun x => -x % (m : Int)).map V.int)) ht2))
        have q2 : SqT K (upd H2 t2 (.tup ((ns.map fun x => -x % (m : Int)).map V.int))) t2 ((ns.map fun x => -x % (m : Int)).map V.int) := SqT.of upd_same
        have sa := (s1'.trans s2).trans (same_upd (o := .tup ((ns.map fun x => -x % (m : Int)).map V.int)) ht2)
        refine ⟨_, rfl, _, rfl, t1, t2, _, _, rfl, rfl, q1, q2, _, rfl, ?_⟩
        cases c : HT.lexLt (ns.map fun x => x % (m : Int)) (ns.map fun x => -x % (m : Int)) with
        | true =>
          refine ite_t rfl ⟨_, rfl, k _ _ sa ⟨t1, rfl, ?_⟩⟩
          unfold canon
          rw [if_pos c]
          exact q1
        | false =>
          refine ite_f rfl ⟨_, rfl, k _ _ sa ⟨t2, rfl, ?_⟩⟩
          unfold canon
          rw [if_neg (by rw [c]; decide)]
          exact q2
/-! is_ruled_by: 32 -/
def spRuled : Sp := fun vs H Q _ => ∃ v ns, ∃ m : Nat, vs = [.int (m : Int), v] ∧ TupI K H v ns ∧ 0 < m ∧ ns.length ≤ sizeLine ∧ Far ns ∧ ∀ H', Same H H' → Q (.bl (ruled m ns)) H'
theorem sc_ruled : FnScope ["modulus", "ray", "length"] ["modulus", "ray"] (defScope (top 32)) := ⟨rfl, rfl, rfl, by decide +kernel, rfl, by decide +kernel, by decide +kernel⟩
theorem ruled_eq (m : Nat) (ns : List Int) (hm : 0 < m) (h4 : ¬ m = 4) : ruled m ns = decide (0 < dot ns ns % (m : Int)) := by
  unfold ruled
  rw [if_neg h4]
  have := Int.emod_nonneg (dot ns ns) (show (m : Int) ≠ 0 by omega)
  by_cases c : dot ns ns % (m : Int) = 0
  · rw [c]; rfl
  · rw [decide_eq_false c, decide_eq_true (by omega)]; rfl
theorem c_ruled (RK : RulesK K mg) (D : DefAt K mg "is_ruled_by" (top 32)) (C1 : Cal P w K mg base "length_by" 2 ["ray"] (spLen (K := K))) : Cal P w K mg base "is_ruled_by" 3 ["modulus", "ray"] (spRuled (K := K)) := by
  obtain ⟨F, hF, qF⟩ := RK.fourth
  refine cal_mk D sc_ruled (fun _ _ _ _ _ _ us hl => match us, hl with | [_, _], _ => rfl) (fun vs H Q E h => ?_) (fun cdv f A outer s H vs Q E hr h => ?_)
  · obtain ⟨v, ns, m, rfl, _⟩ := h
    rfl
  · obtain ⟨v, ns, m, rfl, hq, hm, hz, hf, k⟩ := h
    refine ⟨_, pss_cons (ps_set (i := 2) sc_ruled.nd rfl (Or.inl rfl) (pe_cal C1 hr (pa_cons (pv 1) pa_nil))) (pss_one (ps_ret (pe_ifExp (pt_cmpR op_eq (pv 0) pe_int (nomark _)) (pe_cmpR op_in_seq (pe_op op_mod (pv 2) pe_int) (pe_glob (v := .ref F) (by rfl) hF rfl) rfl) (pe_cmpR op_gt (pe_op op_mod (pv 2) (pv 0)) pe_int (nomark _))))), ?_⟩
    refine ⟨_, rfl, v, ns, rfl, hq, hz, hf, fun H' s => ⟨_, rfl, rfl, _, rfl, ?_⟩⟩
    have hk := k H' s
    by_cases c : m = 4
    · subst c
      refine ite_t (by decide) ⟨_, rfl, _, _, rfl, rfl, show (0 : Int) < 16 by decide, F, _, rfl, .inr (qF _), rfl, flat_ints _, ?_⟩
      rw [inV_ints]
      exact hk
    · refine ite_f (by simp; omega) ⟨_, rfl, _, rfl, _, _, rfl, rfl, by omega, _, _, rfl, rfl, ?_⟩
      rw [ruled_eq m ns hm c] at hk
      exact hk
/-! want_rule: 34 -/
def spWantRule : Sp := fun vs H Q _ => ∃ p : Nat × Nat, vs = [.int (p.1 : Int), .int (p.2 : Int)] ∧ p ∈ rules ∧ ∀ H', Same H H' → Q .non H'
theorem sc_wantrule : FnScope ["size", "modulus"] ["size", "modulus"] (defScope (top 34)) := ⟨rfl, rfl, rfl, by decide +kernel, rfl, by decide +kernel, by decide +kernel⟩
theorem c_wantrule (D : DefAt K mg "want_rule" (top 34)) (C1 : CalD P w K mg base "want" 1 ["is_right", "name", "place"] (.int (-1)) spWant) (C2 : Cal P w K mg base "is_class_size" 2 ["thing"] spClass) (C3 : Cal P w K mg base "is_modulus" 2 ["size", "thing"] spIsMod) : Cal P w K mg base "want_rule" 3 ["size", "modulus"] spWantRule := by
  refine cal_mk D sc_wantrule (fun _ _ _ _ _ _ us hl => match us, hl with | [_, _], _ => rfl) (fun vs H Q E h => ?_) (fun cdv f A outer s H vs Q E hr h => ?_)
  · obtain ⟨n, rfl, _⟩ := h
    rfl
  · obtain ⟨p, rfl, hp, k⟩ := h
    refine ⟨_, pss_cons (ps_expr (pe_want C1 (hr.mono (by decide)) (pe_cal C2 hr (pa_cons (pv 0) pa_nil)) pe_str (by rfl))) (pss_one (ps_expr (pe_want C1 (hr.mono (by decide)) (pe_cal C3 hr (pa_cons (pv 0) (pa_cons (pv 1) pa_nil))) pe_str (by rfl)))), ?_⟩
    obtain ⟨h1, h2, _⟩ := rule_small hp
    refine ⟨_, rfl, _, rfl, ?_⟩
    rw [decide_eq_true (show (3 : Int) ≤ (p.1 : Int) by omega), decide_eq_true (show (p.1 : Int) ≤ 5 by omega)]
    exact ⟨_, _, rfl, _, rfl, _, rfl, p, rfl, hp, fun H' s => ⟨_, _, rfl, k H' s⟩⟩
end
end RM
/-! Rightmarks k40: tuples whose object is known (no dict of their own): orders. -/
namespace RM
open PySem PySem.Spec PyProof.Rows L2
/-- an order as it stands in the heap -/
def OrdT (H : Hp) (v : V) (t : List Nat) : Prop := ∃ b o, v = .ref b ∧ H b = some (.frz o (.tup ((oI t).map V.int))) ∧ o.dict = none
theorem ordT_tup {K : PySem.W.Frag} {H : Hp} {v : V} {t : List Nat} (h : OrdT H v t) : TupI K H v (oI t) := by
  obtain ⟨b, o, rfl, e, _⟩ := h
  exact ⟨b, rfl, .inl (.inr ⟨o, e⟩)⟩
theorem ordT_same {H H' : Hp} {v : V} {t : List Nat} (h : OrdT H v t) (s : Same H H') : OrdT H' v t := by
  obtain ⟨b, o, rfl, e, d⟩ := h
  exact ⟨b, o, rfl, s _ _ e, d⟩
theorem ordT_kb {D : Addr} {H H' : Hp} {v : V} {t : List Nat} {u : HO} (h : OrdT H v t) (k : Kb D H H') (n : H D = some u) (hu : ∀ o x, u ≠ .frz o x) : OrdT H' v t := by
  obtain ⟨b, o, rfl, e, d⟩ := h
  exact ⟨b, o, rfl, k _ _ e (ne_of e n fun z => hu _ _ z.symm), d⟩
section
variable {X : Cx}
/-- tuple(l), l a list: the new tuple's object has no dict -/
def kTupF (K : PySem.W.Frag) (x : V) (H : Hp) (Q : VK) : Prop := ∃ p xs, x = .ref p ∧ SqL K H p xs ∧ ∀ q o, H q = none → o.dict = none → Q (.ref q) (upd H q (.frz o (.tup xs)))
theorem rl_tupleF (pins : List (Addr × Obj)) (s : Shared) (σ : L2.St) (H : Hp) (x : V) (v : Value) (Q : VK) (I : Inv X pins σ H s) (r : RelV x v) (h : kTupF X.K x H Q) :
    wpAny (model X.prog X.w) X.A (call (.type "tuple") [v]) (EP X pins σ Q) X.xe s := by
  obtain ⟨p, xs, rfl, hs, q⟩ := h
  obtain rfl : v = .ref p := r
  obtain ⟨its, rv, pl, hz⟩ := I.list hs
  refine call_tuple_list pl.isList (fun h' hk => ?_) (by rw [List.size_toArray, ← rv.length]; exact hz)
  have J : Inv X pins σ H { s with heap := h' } := I.kept (t' := s.toks) hk
  have J2 : Inv X pins σ (upd H h'.objs.size (.frz { cls := .type "tuple", data := .seq its.toArray } (.tup xs))) { s with heap := h'.push { cls := .type "tuple", data := .seq its.toArray } } :=
    J.laid (t' := s.toks) (fun b o e => Heap.get?_push_of_some _ e) (Nat.le_refl _) (show ObjOk X.prog X.w _ _ _ (.frz _ (.tup xs)) from ⟨Heap.get?_push_size _ rfl, hz, its, rv, IsTup.new _ _⟩)
  exact ⟨.ref h'.objs.size, _, J2, rfl, q _ _ (J.hok.fresh (Nat.le_refl _)) rfl⟩
theorem pe_tupleOfF {a : Expr} {ta : TE} {p pos : Pos} (hg : Gl X "tuple") (hm : X.mg "tuple" = none) (ha : PE X a ta) (na : starEach [a] X.env = (false, eval a X.env) :: starEach [] X.env := by rfl) :
    PE X (.Call (.Name "tuple" p) [a] [] pos) (tThen ta (kTupF X.K)) := by
  refine ⟨fun pins s σ H Q I h => ?_⟩
  exact Call_ (ld_blt I hg hm boot_tuple (PyProof.Rows.callWith_type1 (one_arg ha I h (fun v s2 x H2 I2 r q => rl_tupleF pins s2 σ H2 x v Q I2 r q) na) na))
/-- tuple(range(..)) -/
def tTupRgF (te : L2.St → Hp → (Int → Int → Hp → Prop) → Prop) : TE := fun σ H Q => te σ H fun a b H1 => RgOk a b ∧ ∀ q o, H1 q = none → o.dict = none → Q (.ref q) (upd H1 q (.frz o (.tup (rgV a b))))
theorem pe_tupRgF {e : Expr} {te : L2.St → Hp → (Int → Int → Hp → Prop) → Prop} {p pos : Pos} (hc : X.calm = true) (hg : Gl X "tuple") (hm : X.mg "tuple" = none) (he : PRg X e te) (na : starEach [e] X.env = (false, eval e X.env) :: starEach [] X.env := by rfl) : PE X (.Call (.Name "tuple" p) [e] [] pos) (tTupRgF te) := by
  refine ⟨fun pins s σ H Q I h => ?_⟩
  refine Call_ (ld_blt I hg hm boot_tuple (PyProof.Rows.callWith_type1 (args_cons (thn (he pins s σ H _ I h) fun x s1 ⟨r, a, b, t, u, v, H1, ex, hr, I1, ok, q⟩ => args_nil ?_) na) na))
  subst ex
  obtain ⟨b1, b2, b3, b4, b5⟩ := ok
  refine call_tuple_range (n := (b - a).toNat) (I1.ok.hd hc) hr (small_one b1 b2 b3 b4) (rangeSize_nat a b) b5 fun h' tk acc hk hi => ?_
  have J : Inv X pins σ H1 { s1 with heap := h', toks := tk } := I1.kept hk
  refine ⟨.ref h'.objs.size, upd H1 h'.objs.size (.frz { cls := .type "tuple", data := .seq acc } (.tup (rgV a b))), J.laid (t' := tk) (fun c o e => Heap.get?_push_of_some _ e) (Nat.le_refl _) (show ObjOk X.prog X.w _ _ _ (.frz _ (.tup (rgV a b))) from ⟨Heap.get?_push_size _ rfl, ?_, acc.toList, vals_rg hi, ?_⟩), rfl, q _ _ (J.hok.fresh (Nat.le_refl _)) rfl⟩
  · rw [rgV_length, sizeLine_eq]; omega
  · rw [Array.toArray_toList]; exact IsTup.new _ _
/-! ### t.index(k) of such a tuple -/
def tBMF (r : V → List V → Hp → VK → Prop) (to : TE) (t : TA) : TE := fun σ H Q => to σ H fun x H1 => (∃ b o xs, x = .ref b ∧ H1 b = some (.frz o (.tup xs)) ∧ o.dict = none) ∧ t σ H1 fun ys H2 => r x ys H2 Q
theorem pe_bmF {o e : Expr} {es : List Expr} {to : TE} {t : TA} {name : Str} {apos cpos : Pos} {id : String} {r : V → List V → Hp → VK → Prop} (slot : Slot "tuple" name id) (hty : typeOf (.builtin id) = pure (.type "method_descriptor")) (hm : MtR X id r) (ho : PE X o to) (ha : PA X (e :: es) t)
    (hbase : attributeBase o name X.env (eval o X.env) = eval o X.env := by rfl)
    (hfew : ((backTo cpos (starEach (e :: es) X.env)).all (fun x => !x.1) && (backToKw cpos (keywordEach [] X.env)).all (fun x => x.1.isSome)
      && decide ((e :: es).length + ([] : List Keyword).length + (if ([] : List Keyword).isEmpty then 0 else 1) < 30)) = true := by rfl)
    (hline : (apos.endLine == cpos.line) = true := by rfl) (hs : starEach (e :: es) X.env = (false, eval e X.env) :: starEach es X.env := by rfl) (hplain : (backTo cpos (starEach es X.env)).any (·.1) = false := by rfl) :
    PE X (.Call (.Attribute o name apos) (e :: es) [] cpos) (tBMF r to t) := by
  refine ⟨fun pins s σ H Q I h => ?_⟩
  refine wpAny_Call_method_late hbase hfew hline rfl (thn (ho.run pins s σ H _ I h) fun v s1 ⟨x, H1, I1, r1, ⟨b, ob, xs, ex, hb, hd⟩, q1⟩ => ?_)
  subst ex
  cases r1
  obtain ⟨g0, _, its, _, pt⟩ := I1.hok b _ hb
  obtain ⟨o', e', c', _⟩ := pt
  refine ⟨"tuple", id, PySem.F.plainAttrs_tuple, slot, hty, ⟨o', e', c'⟩, fun a ea => ?_, ?_⟩
  · cases ea
    exact ⟨ob, g0, hd⟩
  have hA := ha.run cpos pins s1 σ H1 _ I1 q1
  rw [hs] at hA ⊢
  refine Calls.callWith_builtin (by show (false || (backTo cpos (starEach es X.env)).any (·.1)) = false; rw [hplain] <;> rfl) (Calls.evalArgs_plain ?_)
  exact thn hA fun us s2 ⟨vs, H2, I2, r2, q2⟩ => hm pins s2 σ H2 (.ref b) vs _ us Q I2 (rref b) r2 q2
end
/-! ### t[::-1], t of three, four or five -/
section
variable {prog : Program} {w : World} {A : Around} {E : Value → Shared → Prop} {s : Shared}
theorem sliceRev {sl : Addr} {vl vu vs : Value} {n : Nat} {Q : Int × Int × Nat → Shared → Prop} (hs : s.heap.IsSliceOf sl vl vu vs) (pl : IsPart vl none) (pu : IsPart vu none) (ps : IsPart vs (some (-1)))
    (h : Q ((n : Int) - 1, -1, n) s) : wpAny (model prog w) A (Builtin.Slice.sliceApplied (.ref sl) (pure (n : Int))) Q E s := by
  obtain ⟨os, hos, hcs, hds⟩ := id hs
  unfold Builtin.Slice.sliceApplied Builtin.Slice.sliceFields
  refine wpAny_bind (wpAny_bind (wpAny_field hos hds (x := vl) rfl (wpAny_bind (wpAny_field hos hds (x := vu) rfl (wpAny_bind (wpAny_field hos hds (x := vs) rfl (wpAny_pure ?_)))))))
  refine wpAny_bind (HT.slicePart_ ps ?_)
  show wpAny _ _ (if ((-1 : Int) == 0) = true then _ else _) _ _ s
  rw [if_neg (by decide)]
  refine wpAny_bind (HT.slicePart_ pl (wpAny_bind (HT.slicePart_ pu (wpAny_bind (wpAny_pure ?_)))))
  show wpAny _ _ (match Builtin.Slice.sliceAdjust none none (-1) (n : Int) with | (lo, hi) => pure (lo, (-1 : Int), Builtin.Slice.slicePlaces lo hi (-1))) _ _ s
  have e : Builtin.Slice.sliceAdjust none none (-1) (n : Int) = ((n : Int) - 1, -1) := rfl
  rw [e]
  have e2 : Builtin.Slice.slicePlaces ((n : Int) - 1) (-1) (-1) = n := by
    unfold Builtin.Slice.slicePlaces
    rw [if_neg (by decide)]
    split
    · rw [show -(-1 : Int) = 1 from rfl, Int.ediv_one]; omega
    · omega
  show wpAny _ _ (pure ((n : Int) - 1, (-1 : Int), Builtin.Slice.slicePlaces ((n : Int) - 1) (-1) (-1))) _ _ s
  rw [e2]
  exact wpAny_pure h
theorem getItem_tuple_rev {t sl : Addr} {items : Array Value} {vl vu vs : Value} {Q : Value → Shared → Prop} (ht : IsTup s.heap t items) (hs : s.heap.IsSliceOf sl vl vu vs) (pl : IsPart vl none) (pu : IsPart vu none) (ps : IsPart vs (some (-1)))
    (h3 : 2 ≤ items.size) (h5 : items.size ≤ sizeLine)
    (h : Q (.ref s.heap.objs.size) { s with heap := s.heap.push { cls := .type "tuple", data := .seq ((List.range items.size).filterMap fun (m : Nat) => items[(((items.size : Int) - 1) + (m : Int) * (-1)).toNat]?).toArray } }) : wpAny (model prog w) A (getItem (.ref t) (.ref sl)) Q E s := by
  have htake : sizeOk (.seq ((List.range items.size).filterMap fun (m : Nat) => items[(((items.size : Int) - 1) + (m : Int) * (-1)).toNat]?).toArray) := by
    show ((List.range items.size).filterMap fun (m : Nat) => items[(((items.size : Int) - 1) + (m : Int) * (-1)).toNat]?).toArray.size ≤ sizeLine
    rw [List.size_toArray]
    have := List.length_filterMap_le (fun (m : Nat) => items[(((items.size : Int) - 1) + (m : Int) * (-1)).toNat]?) (List.range items.size)
    rw [List.length_range] at this
    omega
  obtain ⟨os, hos, hcs, hds⟩ := id hs
  have hTs : s.TypeIs (.ref sl) "slice" := ⟨os, hos, hcs⟩
  unfold getItem
  try with_reducible refine wpAny_holding ?_
  first | refine wpAny_bind (wpAny_pure ?_) | skip
  refine wpAny_bind (wpAny_sequenceKey ht.typeIs (by decide) ?_)
  refine wpAny_bind (wpAny_callSpecial?_slot (name := Str.ofString "__getitem__") ht.typeIs PyProof.Rows.slot_tuple_getitem
    (wpAny_call_entry PyProof.Rows.slot_tuple_getitem ht.typeIs entry_tuple_getitem ?_ (args_tuple_getitem _ _)))
  show wpAny _ _ (Builtin.Tuple.tupleItemsOf (.ref t) >>= _) _ _ s
  refine wpAny_bind (tupleItemsOf_ ht ?_)
  refine wpAny_bind (wpAny_typeOf hTs ?_)
  rw [if_pos (by decide)]
  refine wpAny_bind (sliceRev hs pl pu ps ?_)
  have hno : ¬ ((((items.size : Int) - 1 == 0) && ((-1 : Int) == 1) && (items.size == items.size)) = true) := by
    intro q
    rw [Bool.and_eq_true, Bool.and_eq_true] at q
    exact absurd q.1.2 (by decide)
  show wpAny _ _ (if (((items.size : Int) - 1 == 0) && ((-1 : Int) == 1) && (items.size == items.size)) = true then _ else _) _ _ s
  rw [if_neg hno]
  first
    | exact wpAny_bind (m := Builtin.Tuple.tupleExact _) (wpAny_newObj_type (wpAny_pure ⟨_, rfl, wpAny_pure h⟩) htake)
    | exact wpAny_bind (m := Builtin.Tuple.tupleExact _) (wpAny_newObj_type (wpAny_bind (wpAny_pure (wpAny_pure ⟨_, rfl, wpAny_pure h⟩))) htake)
    | exact wpAny_bind (wpAny_bind (m := Builtin.Tuple.tupleExact _) (wpAny_newObj_type (wpAny_pure (wpAny_pure ⟨_, rfl, wpAny_pure h⟩)) htake))
    | exact wpAny_bind (wpAny_bind (m := Builtin.Tuple.tupleExact _) (wpAny_newObj_type (wpAny_pure ⟨_, rfl, wpAny_pure h⟩) htake))
end
theorem range_pick {k : List Value} {g : Nat → Option Value} (h : ∀ m, m < k.length → g m = k[m]?) : ∀ n, n ≤ k.length → (List.range n).filterMap g = k.take n
  | 0, _ => by rw [List.take_zero]; rfl
  | n + 1, hn => by
    rw [List.range_succ, List.filterMap_append, range_pick h n (by omega), List.take_add_one]
    have e := h n (by omega)
    rw [List.getElem?_eq_getElem (by omega)] at e ⊢
    rw [List.filterMap_cons, e]
    rfl
theorem rev_pick (l : List Value) : ((List.range l.toArray.size).filterMap fun (m : Nat) => l.toArray[(((l.toArray.size : Int) - 1) + (m : Int) * (-1)).toNat]?) = l.reverse := by
  have h := range_pick (k := l.reverse) (g := fun (m : Nat) => l.toArray[(((l.toArray.size : Int) - 1) + (m : Int) * (-1)).toNat]?) (fun m hm => by
    rw [List.length_reverse] at hm
    rw [List.getElem?_reverse hm, List.getElem?_toArray, List.size_toArray]
    congr 1
    omega) l.toArray.size (by simp)
  rw [h]
  exact List.take_of_length_le (by simp)
section
variable {X : Cx}
def tRevT (K : PySem.W.Frag) (te : TE) : TE := fun σ H Q => te σ H fun x H1 => ∃ a xs, x = .ref a ∧ SqT K H1 a xs ∧ 2 ≤ xs.length ∧ ∀ p o, H1 p = none → o.dict = none → Q (.ref p) (upd H1 p (.frz o (.tup xs.reverse)))
theorem pe_revT {e : Expr} {te : TE} {k : Nat} {p1 p2 p3 pos : Pos} (he : PE X e te) : PE X (.Subscript e (.Slice none none (some (.UnaryOp .USub (.Constant (.int 1) k p1) p2)) p3) pos) (tRevT X.K te) := by
  refine ⟨fun pins s σ H Q I h => ?_⟩
  refine Subscript_ (thn (he.run pins s σ H _ I h) fun v s1 ⟨x, H1, I1, r1, a, xs, ex, hx, h2, q⟩ => ?_)
  subst ex
  cases r1
  have hst : PO X (some (.UnaryOp .USub (.Constant (.int 1) k p1) p2)) (tPart (tUn (rU fun i => .int (-i)) (tC (.int 1)))) := po_some (pe_un un_neg pe_int)
  refine wpAny_Slice (thn (po_none.run pins s1 σ H1 (fun o H2 => o = none ∧ H2 = H1) I1 ⟨rfl, rfl⟩) fun vl s2 ⟨l, H2, I2, pl, el, e2⟩ => ?_)
  subst el e2
  refine thn (po_none.run pins s2 σ H2 (fun o H3 => o = none ∧ H3 = H2) I2 ⟨rfl, rfl⟩) fun vu s3 ⟨u, H3, I3, pu, eu, e3⟩ => ?_
  subst eu e3
  refine thn (hst.run pins s3 σ H3 (fun o H4 => o = some (-1) ∧ H4 = H3) I3 ⟨1, rfl, -1, rfl, rfl, rfl⟩) fun vs s4 ⟨o, H4, I4, ps, eo, e4⟩ => ?_
  subst eo e4
  have I5 : Inv X pins σ H4 { s4 with heap := s4.heap.push { cls := .type "slice", data := .fields #[vl, vu, vs] } } := I4.kept (t' := s4.toks) fun b ob q => Heap.get?_push_of_some _ q
  obtain ⟨its, r, ht, hz⟩ := I5.tuple hx
  have hlen := r.length
  show wpAny (model X.prog X.w) X.A (subscriptTail e (.Slice none none (some (.UnaryOp .USub (.Constant (.int 1) k p1) p2)) p3) (.ref a) (.ref s4.heap.objs.size)) (EP X pins σ Q) X.xe { s4 with heap := s4.heap.push { cls := .type "slice", data := .fields #[vl, vu, vs] } }
  refine tail_any (ops := [.ref a, .ref s4.heap.objs.size]) ht.typeIs PyProof.Rows.slot_tuple_getitem.lookup ?_ (by with_unfolding_all rfl)
  refine getItem_tuple_rev ht (Heap.IsSliceOf.new _ vl vu vs) pl pu ps (by rw [List.size_toArray]; omega) (by rw [List.size_toArray]; omega) ?_
  rw [rev_pick]
  refine ⟨.ref _, _, I5.laid (t' := s4.toks) (o := .frz { cls := .type "tuple", data := .seq its.reverse.toArray } (.tup xs.reverse)) (fun b ob q => Heap.get?_push_of_some _ q) (Nat.le_refl _) ⟨Heap.get?_push_size _ rfl, by rw [List.length_reverse]; exact hz, _, r.reverse, IsTup.new _ _⟩, rfl, q _ _ (I5.hok.fresh (Nat.le_refl _)) rfl⟩
end
end RM
namespace RM
open PySem PySem.Spec PyProof.Rows L2
theorem idx_oI (k : Nat) : ∀ t : List Nat, (oI t).idxOf (k : Int) = t.idxOf k
  | [] => rfl
  | x :: t => by
    show ((x : Int) :: oI t).idxOf (k : Int) = (x :: t).idxOf k
    rw [List.idxOf_cons, List.idxOf_cons, idx_oI k t]
    by_cases c : x = k
    · rw [c]; simp
    · rw [beq_eq_false_iff_ne.mpr c, beq_eq_false_iff_ne.mpr (fun e => c (Int.ofNat_inj.mp e))]
theorem mem_oI {k : Nat} {t : List Nat} : (k : Int) ∈ oI t ↔ k ∈ t := by
  unfold oI
  rw [List.mem_map]
  constructor
  · rintro ⟨x, m, e⟩
    rwa [← Int.ofNat_inj.mp e]
  · intro m
    exact ⟨k, m, rfl⟩
theorem oI_len (t : List Nat) : (oI t).length = t.length := List.length_map ..
/-- what an order is asked to be -/
structure Ord (n : Nat) (t : List Nat) : Prop where
  len : t.length = n
  lt : ∀ k ∈ t, k < n
  all : ∀ k, k < n → k ∈ t
theorem ord_of {p : Nat × Nat} (hp : p ∈ rules) {t : List Nat} (ht : t ∈ permsOf p.1) : Ord p.1 t := by
  obtain ⟨a, b, c⟩ := ord_facts hp ht
  exact ⟨a, b, c⟩
theorem Ord.idx {n : Nat} {t : List Nat} (O : Ord n t) {k : Nat} (h : k < n) : t.idxOf k < n := by
  rw [← O.len]
  exact List.idxOf_lt_length_iff.mpr (O.all k h)
theorem rg_oI (n : Nat) : rgV 0 (n : Int) = ((List.range n).map fun (k : Nat) => (k : Int)).map V.int := by
  unfold rgV
  rw [List.map_map]
  have e : ((n : Int) - 0).toNat = n := by omega
  rw [e]
  exact List.map_congr_left fun k _ => by show V.int (0 + (k : Int)) = V.int (k : Int); rw [Int.zero_add]
section
variable {P : Program} {w : World} {K : PySem.W.Frag} {mg : Str → Option Value} {base : Heap}
/-! is_order: 36 -/
def spIsOrder : Sp := fun vs H Q _ => ∃ n v t, vs = [.int ((n : Nat) : Int), v] ∧ TupI K H v (oI t) ∧ Ord n t ∧ n ≤ 5 ∧ ∀ H', Same H H' → Q (.bl true) H'
theorem sc_isorder : FnScope ["size", "thing", "one"] ["size", "thing"] (defScope (top 36)) := ⟨rfl, rfl, rfl, by decide +kernel, rfl, by decide +kernel, by decide +kernel⟩
theorem c_isorder (T : Tx K mg) (D : DefAt K mg "is_order" (top 36)) (C1 : Cal P w K mg base "is_integer" 1 ["thing"] spIsInt) : Cal P w K mg base "is_order" 2 ["size", "thing"] (spIsOrder (K := K)) := by
  refine cal_mk D sc_isorder (fun _ _ _ _ _ _ us hl => match us, hl with | [_, _], _ => rfl) (fun vs H Q E h => ?_) (fun cdv f A outer s H vs Q E hr h => ?_)
  · obtain ⟨n, v, t, rfl, _⟩ := h
    rfl
  · obtain ⟨n, v, t, rfl, ⟨a, rfl, hq⟩, O, hn, k⟩ := h
    refine ⟨_, pss_cons (ps_if (PW.pt (pw_or (pt_not (pt_val (pe_callB call_isi (by rfl) T.isinstance rfl (pa_cons (pv 1) (pa_cons (pe_bltn (v := .ty "tuple") (by rfl) T.tuple rfl rfl) pa_nil)))))
        (pw_or (pt_cmpR op_ne (pe_callB call_len (by rfl) T.len rfl (pa_cons (pv 1) pa_nil)) (pv 0) (nomark _)) (pw_or1 (pt_not (pt_val (pe_callB (cr_all rfl) (by rfl) T.all rfl (pa_cons (pe_lc (own := [("one", 2)]) (g := gName 2) (tt := tYes) rfl sc_isorder.nd (pi_tup (pv 1)) (blkOk_by (N := ["size", "thing", "one"]) (sc := defScope (top 36)) (by decide +kernel)) (fun _ _ _ _ _ => pg_name (i := 2) sc_isorder.nd rfl (Or.inl rfl)) (fun _ _ _ _ _ => pts_nil)
        (fun _ _ _ _ _ => pe_cal C1 (by exact hr) (pa_cons (pv 2) pa_nil))) pa_nil))))))))
        (pss_one (ps_ret pe_bl)) pss_nil)
      (pss_one (ps_ret (pe_cmpR (op_eqD hr.units) (pe_callB (cr_sortedSet rfl) (by rfl) T.sorted rfl (pa_cons (pe_callTy (cr_setTI rfl) (by rfl) T.set rfl (pa_cons (pv 1) pa_nil)) pa_nil)) (pe_listRg rfl (by rfl) T.list (prg_1 (by rfl) T.range (pv 0))) (nomark _)))), ?_⟩
    refine ⟨_, rfl, _, _, _, _, true, rfl, .ty _, tyx_tup hq, kit_ty (by decide +kernel), true, rfl, ite_f rfl ?_⟩
    have hl : ((oI t).map V.int).length = n := by rw [List.length_map, oI_len, O.len]
    refine ⟨_, rfl, _, _, rfl, .inr ⟨_, hq, rfl⟩, _, rfl, rfl, _, rfl, ite_f (by rw [hl]; simp) ?_⟩
    have hz : (oI t).length ≤ sizeLine := by rw [oI_len, O.len, sizeLine_eq]; omega
    refine ⟨_, rfl, a, rfl, ⟨_, hq⟩, fun D hD => lcTu (pr_int (oI t)) hq hD hz stbB (p := fun _ => true) (f := fun _ => true) (lcT_yes fun _ => rfl) ?_ ?_⟩
    · rintro v b _ rfl _ H' s Q q
      exact ⟨_, rfl, b, rfl, q _ _ (fun _ _ e => e) rfl⟩
    · intro H' ys s hd pr
      have e := pr_bl_eq pr
      subst e
      refine ⟨D, _, rfl, SqL.of hd, true, ?_, ite_f rfl ?_⟩
      · rw [all_true fun _ => rfl]
      · refine ⟨_, rfl, a, oI t, rfl, hq.ext s, by rw [oI_len, O.len]; omega, fun S c hS hc => ?_⟩
        refine ⟨S, _, c, rfl, upd_same, by rw [oI_len, O.len] at hc; omega, fun ns L h1 h2 h3 hL => ?_⟩
        refine ⟨_, rfl, _, rfl, RgOk.of_le (by decide) (by omega) (by decide) (by omega), fun M hM => ?_⟩
        have e : ns = (List.range n).map fun (k : Nat) => (k : Int) := by
          refine int_unique h1 (List.pairwise_map.mpr (List.Pairwise.imp (fun h => by omega) List.pairwise_lt_range)) fun x => ?_
          rw [h2 x, decide_eq_true_eq, List.mem_map]
          constructor
          · intro m
            obtain ⟨k, mk, rfl⟩ := List.mem_map.mp m
            exact ⟨k, List.mem_range.mpr (O.lt k mk), rfl⟩
          · rintro ⟨k, mk, rfl⟩
            exact mem_oI.mpr (O.all k (List.mem_range.mp mk))
        have sL : Same H' (upd (upd H' S (SetO w S (fun j => decide (j ∈ oI t)) c)) L (.lst (ns.map V.int))) := (same_upd hS).trans (same_upd hL)
        have qL : SqL K (upd (upd (upd H' S (SetO w S (fun j => decide (j ∈ oI t)) c)) L (.lst (ns.map V.int))) M (.lst (rgV 0 (n : Int)))) L (ns.map V.int) := (SqL.of upd_same).ext (same_upd hM)
        refine ⟨.list (ns.map PyData.int), .list (ns.map PyData.int), .lst qL (dp_ints ns), .lst (xs := ns.map V.int) (SqL.of ?_) (dp_ints ns), shp_ints _, shp_ints _, ?_⟩
        · show upd _ M _ M = _
          rw [upd_same, rg_oI, e]
        · rw [show PyData.eqv (.list (ns.map PyData.int)) (.list (ns.map PyData.int)) = true from (eqv_ints ns ns).trans (decide_eq_true rfl)]
          exact k _ ((s.trans sL).trans (same_upd hM))
/-! rest_turned: 37 -/
def spRestTurned : Sp := fun vs H Q _ => ∃ u v r t, ∃ m : Nat, vs = [.int (m : Int), u, v] ∧ TupI K H u r ∧ OrdT H v t ∧ Ord r.length t ∧ r.length ≤ 5 ∧ 0 < m ∧ ∀ H' y, Same H H' → TupI K H' y (canon m (placeP t r)) → Q y H'
theorem sc_restturned : FnScope ["modulus", "rest", "order", "numbers", "place"] ["modulus", "rest", "order"] (defScope (top 37)) := ⟨rfl, rfl, rfl, by decide +kernel, rfl, by decide +kernel, by decide +kernel⟩
theorem c_restturned (T : Tx K mg) (D : DefAt K mg "rest_turned" (top 37)) (C1 : Cal P w K mg base "rest_by" 1 ["modulus", "numbers"] (spRest (K := K))) : Cal P w K mg base "rest_turned" 2 ["modulus", "rest", "order"] (spRestTurned (K := K)) := by
  refine cal_mk D sc_restturned (fun _ _ _ _ _ _ us hl => match us, hl with | [_, _, _], _ => rfl) (fun vs H Q E h => ?_) (fun cdv f A outer s H vs Q E hr h => ?_)
  · obtain ⟨u, v, r, t, m, rfl, _⟩ := h
    rfl
  · obtain ⟨u, v, r, t, m, rfl, ⟨a, rfl, hq⟩, ⟨b, ob, rfl, hb, hdn⟩, O, h5, hm, k⟩ := h
    have hsz : r.length ≤ sizeLine := by rw [sizeLine_eq]; omega
    refine ⟨_, pss_cons (ps_setLc (i := 3) (own := [("place", 4)]) (g := gName 4) (tt := tYes) (te := tOp (rIxT K) (tVar 1) (tBMF (rIndexTI K) (tVar 2) (tCons (tVar 4) tNil))) rfl sc_restturned.nd rfl rfl (sw_true rfl rfl rfl (by decide +kernel)) (pi_range1 (by rfl) T.range (pa_cons (pe_callB call_len (by rfl) T.len rfl (pa_cons (pv 1) pa_nil)) pa_nil)) (blkOk_by (N := ["modulus", "rest", "order", "numbers", "place"]) (sc := defScope (top 37)) (by decide +kernel)) (fun _ _ _ _ _ => pg_name (i := 4) sc_restturned.nd rfl (Or.inl rfl)) (fun _ _ _ _ _ => pts_nil)
        (fun _ _ _ _ _ => pe_ix ix_tup (pv 1) (pe_bmF PySem.F.slot_tuple_index PySem.F.type_tuple_index mt_indexTI (pv 2) (pa_cons (pv 4) pa_nil)) (fun _ _ => rfl)))
      (pss_one (ps_ret (pe_cal C1 hr (pa_cons (pv 0) (pa_cons (pv 3) pa_nil))))), ?_⟩
    have hl : (r.map V.int).length = r.length := List.length_map ..
    refine ⟨_, rfl, _, _, rfl, .inr ⟨_, hq, rfl⟩, ((r.map V.int).length : Int), rfl, ?_, ?_, ?_⟩
    · omega
    · omega
    rw [show ((r.map V.int).length : Int).toNat = r.length from by rw [hl]; omega]
    refine fun D hD => lcR (n := r.length) (G := gI) (p := fun _ => true) (f := fun p => r.getD (t.idxOf p) 0) hD hsz stbI (lcT_yes fun _ => rfl) ?_ ?_
    · rintro v k hk rfl _ H' s Q q
      have hk := List.mem_range.mp hk
      have hi := O.idx hk
      refine ⟨_, rfl, _, rfl, ⟨b, ob, _, rfl, s _ _ hb, hdn⟩, _, rfl, b, oI t, (k : Int), rfl, ?_, .inl (.inr ⟨ob, s _ _ hb⟩), mem_oI.mpr (O.all k hk), a, r.map V.int, _, .int (r.getD (t.idxOf k) 0), rfl, rfl, hq.ext s, ?_, q _ _ (fun _ _ e => e) rfl⟩
      · rw [Int.zero_add]
      · rw [idx_oI]
        refine atI_nat ?_
        rw [List.getElem?_map, List.getD_eq_getElem?_getD, List.getElem?_eq_getElem hi]
        rfl
    · intro H' ys s hd pr
      rw [filter_true] at pr
      have e := pr_int_eq pr
      subst e
      exact ⟨_, rfl, _, rfl, .ref D, placeP t r, m, rfl, ⟨D, rfl, .inl (SqL.of hd)⟩, hm, by unfold placeP; rw [List.length_map, List.length_range]; exact hsz, fun H2 y s2 hy => k H2 y (s.trans s2) hy⟩
/-! is_meant: 38 -/
def meant (n m : Nat) (ns : List Int) : Bool := (isRay ns && decide ((ns.length : Int) = (n : Int))) && ruled m ns
def spMeant : Sp := fun vs H Q _ => ∃ v ns, ∃ n m : Nat, vs = [.int (n : Int), .int (m : Int), v] ∧ TupI K H v ns ∧ 0 < m ∧ ns.length ≤ sizeLine ∧ Far ns ∧ ∀ H', Same H H' → Q (.bl (meant n m ns)) H'
theorem sc_meant : FnScope ["size", "modulus", "thing"] ["size", "modulus", "thing"] (defScope (top 38)) := ⟨rfl, rfl, rfl, by decide +kernel, rfl, by decide +kernel, by decide +kernel⟩
theorem c_meant (D : DefAt K mg "is_meant" (top 38)) (C1 : Cal P w K mg base "is_ray_of" 4 ["size", "thing"] (spRayOf (K := K))) (C2 : Cal P w K mg base "is_ruled_by" 3 ["modulus", "ray"] (spRuled (K := K))) : Cal P w K mg base "is_meant" 5 ["size", "modulus", "thing"] (spMeant (K := K)) := by
  refine cal_mk D sc_meant (fun _ _ _ _ _ _ us hl => match us, hl with | [_, _, _], _ => rfl) (fun vs H Q E h => ?_) (fun cdv f A outer s H vs Q E hr h => ?_)
  · obtain ⟨v, ns, n, m, rfl, _⟩ := h
    rfl
  · obtain ⟨v, ns, n, m, rfl, hq, hm, hz, hf, k⟩ := h
    refine ⟨_, pss_one (ps_ret (pe_and (pe_cal C1 hr (pa_cons (pv 0) (pa_cons (pv 2) pa_nil))) (pe_one (pe_cal C2 (hr.mono (by decide)) (pa_cons (pv 1) (pa_cons (pv 2) pa_nil)))))), ?_⟩
    refine ⟨_, rfl, _, rfl, v, ns, _, rfl, hq, hz, fun H1 s1 => ⟨_, rfl, ?_⟩⟩
    cases e : isRay ns && decide ((ns.length : Int) = (n : Int)) with
    | false =>
      refine ite_f rfl ?_
      have := k H1 s1
      unfold meant at this
      rw [e] at this
      exact this
    | true =>
      refine ite_t rfl ⟨_, rfl, _, rfl, v, ns, m, rfl, tupI_same hq s1, hm, hz, hf, fun H2 s2 => ?_⟩
      have := k H2 (s1.trans s2)
      unfold meant at this
      rw [e] at this
      exact this
end
end RM
namespace RM
open PySem PySem.Spec PyProof.Rows L2
/-- a loop over ints in a list or a tuple -/
theorem for_seq {K : PySem.W.Frag} {a : Addr} {i : Nat} {xs : List V} {g : TG} {tb : TS} {D : Ends} {σ : L2.St} {H : Hp} (hi : σ[i]? = some (some (.ref a))) (hs : SqL K H a xs ∨ SqT K H a xs) (Pv : Nat → L2.St → Hp → Prop) (h0 : Pv 0 σ H) (hsame : ∀ i σ H', Pv i σ H' → Same H H')
    (hst : ∀ i x σ H, xs[i]? = some x → Pv i σ H → g x σ H fun σ2 H2 => tb { D with nx := Pv (i + 1), ct := Pv (i + 1), bk := D.nx } σ2 H2) (hd : ∀ σ H, Pv xs.length σ H → D.nx σ H) : tFor (iSeq K i) g tb D σ H := by
  refine ⟨a, hi, ?_⟩
  rcases hs with q | q
  · exact .inl ⟨⟨_, q⟩, for_list Pv h0 (fun i σ H' _ p => q.ext (hsame i σ H' p)) hst hd⟩
  · exact .inr ⟨⟨_, q⟩, for_tup Pv h0 (fun i σ H' _ p => q.ext (hsame i σ H' p)) hst hd⟩
section
variable {P : Program} {w : World} {K : PySem.W.Frag} {mg : Str → Option Value} {base : Heap}
/-! _law_is_whole: 46 -/
theorem sc_whole : FnScope ["_law_item"] ["_law_item"] (defScope (top 46)) := ⟨rfl, rfl, rfl, by decide +kernel, rfl, by decide +kernel, by decide +kernel⟩
theorem c_whole (T : Tx K mg) (D : DefAt K mg "_law_is_whole" (top 46)) : Cal P w K mg base "_law_is_whole" 1 ["_law_item"] spIsInt := by
  refine cal_mk D sc_whole (fun _ _ _ _ _ _ us hl => match us, hl with | [_], _ => rfl) (fun vs H Q E h => ?_) (fun cdv f A outer s H vs Q E hr h => ?_)
  · obtain ⟨i, rfl, _⟩ := h
    rfl
  · obtain ⟨i, rfl, k⟩ := h
    refine ⟨_, pss_one (ps_ret (pe_and (pe_callB call_isi (by rfl) T.isinstance rfl (pa_cons (pv 0) (pa_cons (pe_bltn (v := .ty "int") (by rfl) T.int rfl rfl) pa_nil)))
      (pe_one (pe_not (pe_callB call_isi (by rfl) T.isinstance rfl (pa_cons (pv 0) (pa_cons (pe_bltn (v := .ty "bool") (by rfl) T.bool rfl rfl) pa_nil))))))), ?_⟩
    refine ⟨_, rfl, _, _, _, _, true, rfl, .ty _, .base (.int i), kit_ty (by decide +kernel), true, rfl, ?_⟩
    exact ite_t rfl ⟨_, rfl, _, _, _, _, false, rfl, .ty _, .base (.int i), kit_ty (by decide +kernel), false, rfl, k⟩
/-! _law_common: 47 -/
def spLCommon : Sp := fun vs H Q _ => ∃ a b : Int, vs = [.int a, .int b] ∧ 0 ≤ a ∧ 0 ≤ b ∧ b ≤ 1000 ∧ Q (.int (Int.gcd a b)) H
theorem sc_lcommon : FnScope ["_law_first", "_law_second", "_law_lap"] ["_law_first", "_law_second"] (defScope (top 47)) := ⟨rfl, rfl, rfl, by decide +kernel, rfl, by decide +kernel, by decide +kernel⟩
theorem c_lcommon (T : Tx K mg) (D : DefAt K mg "_law_common" (top 47)) : Cal P w K mg base "_law_common" 1 ["_law_first", "_law_second"] spLCommon := by
  refine cal_mk D sc_lcommon (fun _ _ _ _ _ _ us hl => match us, hl with | [_, _], _ => rfl) (fun vs H Q E h => ?_) (fun cdv f A outer s H vs Q E hr h => ?_)
  · obtain ⟨a, b, rfl, _⟩ := h
    rfl
  · obtain ⟨a, b, rfl, ha, hb, hb2, k⟩ := h
    refine ⟨_, pss_cons (ps_for PassesOwn.never rfl (pi_range1 (by rfl) T.range (pa_cons pe_int pa_nil)) (pg_name (i := 2) sc_lcommon.nd rfl (Or.inl rfl))
        (pss_cons (ps_if (pt_cmpR op_eq (pv 1) pe_int (nomark _)) (pss_one (ps_ret (pv 0))) pss_nil)
        (pss_one (ps_par (i := 0) (j := 1) rfl sc_lcommon.nd rfl rfl (by decide) rfl rfl (pa_cons (pv 1) (pa_cons (pe_op op_mod (pe_callTy call_int1 (by rfl) T.int rfl (pa_cons (pv 0) pa_nil)) (pv 1)) pa_nil)) rfl))))
      (pss_one (ps_ret (pv 0))), ?_⟩
    refine ⟨1500, rfl, by decide, by decide, for_range (n := 1500) (fun i σ H' => ∃ (x y : Int) (o : Option V), σ = [some (.int x), some (.int y), o] ∧ H' = H ∧ 0 ≤ x ∧ 0 ≤ y ∧ Int.gcd x y = Int.gcd a b ∧ y + i ≤ b) ⟨a, b, none, rfl, rfl, ha, hb, rfl, by omega⟩ ?_ ?_⟩
    · rintro i σ H' hi ⟨x, y, o, rfl, rfl, hx, hy, hg, hy2⟩
      refine ⟨_, rfl, rfl, _, rfl, ?_⟩
      by_cases h0 : y = 0
      · subst h0
        refine ite_t (by simp) ⟨_, rfl, ?_⟩
        have e : x = (Int.gcd a b : Int) := by rw [← hg, Int.gcd_zero_right]; omega
        rw [e]
        exact k
      · refine ite_f (by simpa using h0) ⟨_, rfl, _, rfl, .inl ⟨x, rfl, _, rfl, x, y, rfl, rfl, by omega, _, _, rfl, y, x % y, _, rfl, rfl, hy, Int.emod_nonneg x h0, ?_, ?_⟩⟩
        · rw [← hg]
          exact gcd_step x y hx hy
        · have := Int.emod_lt_of_pos x (show 0 < y by omega)
          omega
    · rintro σ H' ⟨x, y, o, rfl, rfl, hx, hy, hg, hy2⟩
      omega
/-! _law_common_of: 48 -/
def spLCommonOf : Sp := fun vs H Q _ => ∃ v ns, vs = [v] ∧ SeqI K H v ns ∧ Sm 1000 ns ∧ Q (.int (gcdN ns)) H
theorem sc_lcommonof : FnScope ["_law_entries", "_law_found", "_law_part_here"] ["_law_entries"] (defScope (top 48)) := ⟨rfl, rfl, rfl, by decide +kernel, rfl, by decide +kernel, by decide +kernel⟩
theorem c_lcommonof (T : Tx K mg) (D : DefAt K mg "_law_common_of" (top 48)) (C1 : Cal P w K mg base "_law_common" 1 ["_law_first", "_law_second"] spLCommon) : Cal P w K mg base "_law_common_of" 2 ["_law_entries"] (spLCommonOf (K := K)) := by
  refine cal_mk D sc_lcommonof (fun _ _ _ _ _ _ us hl => match us, hl with | [_], _ => rfl) (fun vs H Q E h => ?_) (fun cdv f A outer s H vs Q E hr h => ?_)
  · obtain ⟨v, ns, rfl, _⟩ := h
    rfl
  · obtain ⟨v, ns, rfl, ⟨t, rfl, hq⟩, hsm, k⟩ := h
    refine ⟨_, pss_cons (ps_set (i := 1) sc_lcommonof.nd rfl (Or.inl rfl) pe_int) (pss_cons (ps_for PassesOwn.never rfl (pi_seq (pv 0)) (pg_name (i := 2) sc_lcommonof.nd rfl (Or.inl rfl))
        (pss_one (ps_set (i := 1) sc_lcommonof.nd rfl (Or.inl rfl) (pe_cal C1 hr (pa_cons (pv 1) (pa_cons (pe_callB call_abs (by rfl) T.abs rfl (pa_cons (pv 2) pa_nil)) pa_nil))))))
      (pss_one (ps_ret (pv 1)))), ?_⟩
    dsimp only [tSeq, tAsg, gName, tC]
    refine for_seq (i := 0) (a := t) (xs := ns.map V.int) (σ := [some (.ref t), some (.int 0), none]) rfl hq (fun i σ H' => H' = H ∧ ∃ o, σ = [some (.ref t), some (.int (gcdN (ns.take i))), o]) ⟨rfl, _, rfl⟩ ?_ ?_ ?_
    · rintro i σ H' ⟨rfl, _⟩
      exact fun _ _ e => e
    · rintro i x σ H' hx ⟨rfl, o, rfl⟩
      obtain ⟨n, hn, rfl⟩ := getI hx
      have hs := hsm n (List.mem_of_getElem? hn)
      refine ⟨_, rfl, _, rfl, _, rfl, _, _, rfl, by omega, ?_, ?_, rfl, some (.int n), ?_⟩
      · split <;> omega
      · split <;> omega
      · show [_, _, _] = [_, _, _]
        rw [abs_nat, take_snoc hn, show gcdN (ns.take i ++ [n]) = Nat.gcd (gcdN (ns.take i)) n.natAbs from by unfold gcdN; rw [List.foldl_append]; rfl]
        rfl
    · rintro σ H' ⟨rfl, o, rfl⟩
      refine ⟨_, rfl, ?_⟩
      rw [List.length_map, List.take_length]
      exact k
/-! _law_is_beam: 49 -/
def spBeam : Sp := fun vs H Q _ => ∃ v ns, ∃ n : Nat, vs = [v, .int (n : Int)] ∧ TupI K H v ns ∧ Sm 1000 ns ∧ ns.length ≤ sizeLine ∧ ∀ H', Same H H' → Q (.bl (isBeam n ns)) H'
theorem sc_beam : FnScope ["_law_item", "_law_wide", "_law_part_here", "_law_rest"] ["_law_item", "_law_wide"] (defScope (top 49)) := ⟨rfl, rfl, rfl, by decide +kernel, rfl, by decide +kernel, by decide +kernel⟩
theorem c_beam (T : Tx K mg) (D : DefAt K mg "_law_is_beam" (top 49)) (C1 : Cal P w K mg base "_law_is_whole" 1 ["_law_item"] spIsInt) (C2 : Cal P w K mg base "_law_common_of" 2 ["_law_entries"] (spLCommonOf (K := K))) : Cal P w K mg base "_law_is_beam" 3 ["_law_item", "_law_wide"] (spBeam (K := K)) := by
  refine cal_mk D sc_beam (fun _ _ _ _ _ _ us hl => match us, hl with | [_, _], _ => rfl) (fun vs H Q E h => ?_) (fun cdv f A outer s H vs Q E hr h => ?_)
  · obtain ⟨v, ns, n, rfl, _⟩ := h
    rfl
  · obtain ⟨v, ns, n, rfl, ⟨t, rfl, hq⟩, hsm, hz, k⟩ := h
    refine ⟨_, pss_cons (ps_if (PW.pt (pw_or (pt_not (pt_val (pe_callB call_isi (by rfl) T.isinstance rfl (pa_cons (pv 0) (pa_cons (pe_bltn (v := .ty "tuple") (by rfl) T.tuple rfl rfl) pa_nil)))))
        (pw_or1 (pt_cmpR op_ne (pe_callB call_len (by rfl) T.len rfl (pa_cons (pv 0) pa_nil)) (pv 1) (nomark _))))) (pss_one (ps_ret pe_bl)) pss_nil)
      (pss_cons (ps_if (pt_cmpR (op_neD hr.units) (pe_lc (own := [("_law_part_here", 2)]) (g := gName 2) (tt := tNot (tB (tCall spIsInt [] E0 (tCons (tVar 2) tNil)))) (te := tVar 2) rfl sc_beam.nd (pi_tup (pv 0)) (blkOk_by (N := ["_law_item", "_law_wide", "_law_part_here", "_law_rest"]) (sc := defScope (top 49)) (by decide +kernel)) (fun _ _ _ _ _ => pg_name (i := 2) sc_beam.nd rfl (Or.inl rfl))
          (fun _ _ _ _ _ => pts_one (pt_not (pt_val (pe_cal C1 (hr.mono (by decide)) (pa_cons (pv 2) pa_nil))))) (fun _ _ _ _ _ => pv 2)) (pe_lst pa_nil) (nomark _)) (pss_one (ps_ret pe_bl)) pss_nil)
      (pss_cons (ps_setLc (i := 3) (own := [("_law_part_here", 2)]) (g := gName 2) (tt := tTest (tOp rNe (tVar 2) (tC (.int 0)))) (te := tVar 2) rfl sc_beam.nd rfl rfl (sw_true rfl rfl rfl (by decide +kernel)) (pi_tup (pv 0)) (blkOk_by (N := ["_law_item", "_law_wide", "_law_part_here", "_law_rest"]) (sc := defScope (top 49)) (by decide +kernel)) (fun _ _ _ _ _ => pg_name (i := 2) sc_beam.nd rfl (Or.inl rfl))
          (fun _ _ _ _ _ => pts_one (pt_cmpR op_ne (pv 2) pe_int (nomark _))) (fun _ _ _ _ _ => pv 2))
      (pss_one (ps_ret (pe_and (pe_cmpR (op_neD hr.units) (pv 3) (pe_lst pa_nil) (nomark _)) (pe_and (pe_cmpR op_gt (pe_ix ix_list (pv 3) pe_int (fun _ _ => rfl)) pe_int (nomark _)) (pe_one (pe_cmpR op_eq (pe_cal C2 hr (pa_cons (pv 0) pa_nil)) pe_int (nomark _))))))))), ?_⟩
    refine ⟨_, rfl, _, _, _, _, true, rfl, .ty _, tyx_tup hq, kit_ty (by decide +kernel), true, rfl, ite_f rfl ?_⟩
    have hl : (ns.map V.int).length = ns.length := List.length_map ..
    refine ⟨_, rfl, _, _, rfl, .inr ⟨_, hq, rfl⟩, _, rfl, rfl, _, rfl, ?_⟩
    rcases Decidable.em (ns.length ≠ n) with hn | hn
    · refine ite_t (by rw [hl]; simp; omega) ?_
      have := k H fun _ _ e => e
      unfold isBeam at this
      rw [decide_eq_false hn, Bool.false_and] at this
      exact this
    have hn : ns.length = n := Decidable.not_not.mp hn
    have hk : ∀ H', Same H H' → Q (.bl (isRay ns)) H' := fun H' s => by
      have := k H' s
      unfold isBeam at this
      rw [decide_eq_true hn, Bool.true_and] at this
      exact this
    refine ite_f (by rw [hl]; simp; omega) ?_
    refine ⟨_, rfl, t, rfl, ⟨_, hq⟩, fun D hD => lcTu (pr_int ns) hq hD hz stbI (p := fun _ => false) (f := fun x => x) ?_ ?_ ?_⟩
    · rintro v b _ rfl H' s Q q
      exact ⟨_, rfl, b, rfl, _, rfl, q H' fun _ _ e => e⟩
    · rintro v b _ rfl e
      cases e
    intro H1 ys s1 hd1 pr1
    rw [List.filter_eq_nil_iff.mpr (by simp)] at pr1
    cases pr1
    refine ⟨by decide, fun M hM => ?_⟩
    refine ⟨.list [], .list [], .lst ((SqL.of hd1).ext (same_upd hM)) .nil, .lst (SqL.of upd_same) .nil, rfl, rfl, false, rfl, ite_f rfl ?_⟩
    have s2 := s1.trans (same_upd (o := .lst []) hM)
    refine ⟨_, rfl, t, rfl, ⟨_, hq.ext s2⟩, fun D2 hD2 => lcTu (pr_int ns) (hq.ext s2) hD2 hz stbI (p := fun x => !decide (x = 0)) (f := fun x => x) ?_ ?_ ?_⟩
    · rintro v b _ rfl H' s Q q
      refine ⟨_, rfl, rfl, _, rfl, ?_⟩
      have := q H' fun _ _ e => e
      simpa using this
    · rintro v b _ rfl _ H' s Q q
      exact ⟨_, rfl, q _ _ (fun _ _ e => e) rfl⟩
    · intro H2 ys s3 hd pr
      rw [List.map_id'] at pr
      have e := pr_int_eq pr
      subst e
      have s12 := s2.trans s3
      change H2 D2 = some (.lst ((nz ns).map V.int)) at hd
      refine ⟨_, rfl, by decide, fun M2 hM2 => ?_⟩
      have s4 := s12.trans (same_upd (o := .lst []) hM2)
      have hd4 := same_upd (o := .lst []) hM2 _ _ hd
      refine ⟨.list ((nz ns).map PyData.int), .list [], .lst (SqL.of hd4) (dp_ints _), .lst (SqL.of upd_same) .nil, shp_ints _, rfl, _, rfl, ?_⟩
      have hk := hk _ s4
      unfold isRay at hk
      rw [show PyData.eqv (.list ((nz ns).map PyData.int)) (.list []) = decide (nz ns = []) from eqv_ints (nz ns) []]
      cases e : nz ns with
      | nil =>
        rw [e] at hk
        exact ite_f rfl hk
      | cons x l =>
        rw [e] at hd4 hk
        change Q (.bl (decide (0 < x) && decide (gcdN ns = 1))) _ at hk
        refine ite_t rfl ⟨_, rfl, D2, _, _, _, rfl, rfl, SqL.of hd4, atI_nat (j := 0) rfl, _, _, rfl, rfl, _, rfl, ?_⟩
        by_cases hx : 0 < x
        · refine ite_t (by simpa using hx) ⟨_, rfl, _, ns, rfl, ⟨t, rfl, .inr (hq.ext s4)⟩, hsm, rfl, ?_⟩
          rw [decide_eq_true hx, Bool.true_and] at hk
          have e2 : decide (V.int (gcdN ns : Int) = V.int 1) = decide (gcdN ns = 1) := by simp; omega
          rw [e2]
          exact hk
        · refine ite_f (by simpa using hx) ?_
          rw [decide_eq_false hx, Bool.false_and] at hk
          exact hk
end
end RM
namespace RM
open PySem PySem.Spec PyProof.Rows L2
section
variable {P : Program} {w : World} {K : PySem.W.Frag} {mg : Str → Option Value} {base : Heap}
/-! _law_made: 50 -/
def spMade : Sp := fun vs H Q _ => ∃ v ns, vs = [v] ∧ SeqI K H v ns ∧ Sm 1000 ns ∧ ns.length ≤ sizeLine ∧ nz ns ≠ [] ∧ ∀ H' y, Same H H' → TupI K H' y (made ns) → Q y H'
def nMade : List Str := ["_law_entries", "_law_shared", "_law_rest", "_law_part_here", "_law_sign"]
theorem sc_made : FnScope nMade ["_law_entries"] (defScope (top 50)) := ⟨rfl, rfl, rfl, by decide +kernel, rfl, by decide +kernel, by decide +kernel⟩
theorem gcd_small {ns : List Int} (h : nz ns ≠ []) (s : Sm 1000 ns) : gcdN ns ≤ 1000 := by
  obtain ⟨x, hx⟩ := List.exists_mem_of_ne_nil _ h
  obtain ⟨m, n⟩ := List.mem_filter.mp hx
  have n' : x ≠ 0 := by simpa using n
  exact Nat.le_trans (Nat.le_of_dvd (by omega) (gcdN_dvd m)) (s x m)
theorem c_made (T : Tx K mg) (D : DefAt K mg "_law_made" (top 50)) (C2 : Cal P w K mg base "_law_common_of" 2 ["_law_entries"] (spLCommonOf (K := K))) : Cal P w K mg base "_law_made" 3 ["_law_entries"] (spMade (K := K)) := by
  refine cal_mk D sc_made (fun _ _ _ _ _ _ us hl => match us, hl with | [_], _ => rfl) (fun vs H Q E h => ?_) (fun cdv f A outer s H vs Q E hr h => ?_)
  · obtain ⟨v, ns, rfl, _⟩ := h
    rfl
  · obtain ⟨v, ns, rfl, ⟨t, rfl, hq⟩, hsm, hz, hne, k⟩ := h
    refine ⟨_, pss_cons (ps_asg (pe_tup (pa_cons (pe_cal C2 hr (pa_cons (pv 0) pa_nil)) (pa_cons (pe_lc (own := [("_law_part_here", 3)]) (g := gName 3) (tt := tTest (tOp rNe (tVar 3) (tC (.int 0)))) (te := tVar 3) rfl sc_made.nd (pi_seq (pv 0)) (blkOk_by (N := nMade) (sc := defScope (top 50)) (by decide +kernel)) (fun _ _ _ _ _ => pg_name (i := 3) sc_made.nd rfl (Or.inl rfl))
          (fun _ _ _ _ _ => pts_one (pt_cmpR op_ne (pv 3) pe_int (nomark _))) (fun _ _ _ _ _ => pv 3)) pa_nil))) (pg_tup rfl (pgs_cons (pg_name (i := 1) sc_made.nd rfl (Or.inr rfl)) (pgs_cons (pg_name (i := 2) sc_made.nd rfl (Or.inl rfl)) pgs_nil))))
      (pss_cons (ps_set (i := 4) sc_made.nd rfl (Or.inr rfl) (pe_ifExp (pt_cmpR op_gt (pe_ix ix_list (pv 2) pe_int (fun _ _ => rfl)) pe_int (nomark _)) pe_int (pe_un un_neg pe_int)))
      (pss_one (ps_ret (pe_tupleOf (by rfl) T.tuple (pe_lc (own := [("_law_part_here", 3)]) (g := gName 3) (tt := tYes) (te := tOp (rI CDiv fun i j => .int (i / j)) (tOp (rI CMul fun i j => .int (i * j)) (tVar 4) (tVar 3)) (tVar 1)) rfl sc_made.nd (pi_seq (pv 0)) (blkOk_by (N := nMade) (sc := defScope (top 50)) (by decide +kernel)) (fun _ _ _ _ _ => pg_name (i := 3) sc_made.nd rfl (Or.inl rfl))
          (fun _ _ _ _ _ => pts_nil) (fun _ _ _ _ _ => pe_op op_fdiv (pe_op op_mul (pv 4) (pv 3)) (pv 1))))))), ?_⟩
    refine ⟨_, rfl, _, ns, rfl, ⟨t, rfl, hq⟩, hsm, ?_⟩
    dsimp only [tCons, tNil]
    refine lc_seq (i := 0) (j := 3) (a := t) (σ := [some (.ref t), none, none, none, none]) (G := gI) (p := fun x => !decide (x = 0)) (f := fun x => x) rfl (pr_int ns) hq hz (fun _ => stbI) ?_ ?_ ?_
    · rintro v b _ rfl H' s Q q
      refine ⟨_, rfl, rfl, _, rfl, ?_⟩
      have := q H' fun _ _ e => e
      simpa using this
    · rintro v b _ rfl _ H' s Q q
      exact ⟨_, rfl, q _ _ (fun _ _ e => e) rfl⟩
    intro D1 hD1 H1 ys s1 hd1 pr1
    rw [List.map_id'] at pr1
    have e := pr_int_eq pr1
    subst e
    change H1 D1 = some (.lst ((nz ns).map V.int)) at hd1
    refine ⟨by show 2 ≤ sizeLine; decide, fun p hp => ?_⟩
    refine ⟨p, _, rfl, SqT.of upd_same, rfl, _, _, rfl, _, _, rfl, rfl, ?_⟩
    have s2 := s1.trans (same_upd (o := .tup [.int (gcdN ns : Int), .ref D1]) hp)
    have hd2 := same_upd (o := .tup [.int (gcdN ns : Int), .ref D1]) hp _ _ hd1
    have hgp := gcdN_pos hne
    have hgs := gcd_small hne hsm
    have hq2 : SqL K _ t (ns.map V.int) ∨ SqT K _ t (ns.map V.int) := hq.imp (fun q => q.ext s2) (fun q => q.ext s2)
    have fin : ∀ sg : Int, sg = signOf ns → (tSeq (tAsg (tC (.int sg)) (gName 4)) (tRet (tThen (tLc (iSeq K 0) (gName 3) tYes (tOp (rI CDiv fun i j => .int (i / j)) (tOp (rI CMul fun i j => .int (i * j)) (tVar 4) (tVar 3)) (tVar 1)) [3]) (kTup K)))) { nx := fun _ H' => Q .non H', rt := Q } [some (.ref t), some (.int (gcdN ns : Int)), some (.ref D1), none, none] (upd H1 p (.tup [.int (gcdN ns : Int), .ref D1])) := by
      rintro sg rfl
      dsimp only [tSeq, tAsg, gName, tC, tRet, tThen]
      refine lc_seq (i := 0) (j := 3) (a := t) (σ := [some (.ref t), some (.int (gcdN ns : Int)), some (.ref D1), none, some (.int (signOf ns))]) (G := gI) (p := fun _ => true) (f := fun x => signOf ns * x / (gcdN ns : Int)) rfl (pr_int ns) hq2 hz (fun _ => stbI) (lcT_yes fun _ => rfl) ?_ ?_
      · rintro v b _ rfl _ H' s Q q
        refine ⟨_, rfl, _, rfl, _, _, rfl, rfl, .inl ?_, _, rfl, _, _, rfl, rfl, ⟨by omega, by omega⟩, q _ _ (fun _ _ e => e) rfl⟩
        rcases sign_abs ns with c | c <;> rw [c] <;> omega
      · intro D2 hD2 H2 ys s3 hd3 pr2
        rw [filter_true] at pr2
        have e2 := pr_int_eq pr2
        subst e2
        exact .inl ⟨D2, _, rfl, SqL.of hd3, fun t2 ht2 => k _ _ ((s2.trans s3).trans (same_upd ht2)) ⟨t2, rfl, SqT.of upd_same⟩⟩
    cases e : nz ns with
    | nil => exact absurd e hne
    | cons x l =>
      rw [e] at hd2
      refine ⟨_, rfl, D1, _, _, _, rfl, rfl, SqL.of hd2, atI_nat (j := 0) rfl, _, _, rfl, rfl, _, rfl, ?_⟩
      by_cases hx : 0 < x
      · refine ite_t (by simpa using hx) (fin 1 ?_)
        unfold signOf
        rw [e, if_pos (by exact hx)]
      · refine ite_f (by simpa using hx) ⟨1, rfl, fin (-1) ?_⟩
        unfold signOf
        rw [e, if_neg (by exact hx)]
/-! _law_dot: 51 -/
theorem sc_ldot : FnScope ["_law_first", "_law_second", "_law_a", "_law_b"] ["_law_first", "_law_second"] (defScope (top 51)) := ⟨rfl, rfl, rfl, by decide +kernel, rfl, by decide +kernel, by decide +kernel⟩
theorem c_ldot (T : Tx K mg) (D : DefAt K mg "_law_dot" (top 51)) : Cal P w K mg base "_law_dot" 1 ["_law_first", "_law_second"] (spDot (K := K)) := by
  refine cal_mk D sc_ldot (fun _ _ _ _ _ _ us hl => match us, hl with | [_, _], _ => rfl) (fun vs H Q E h => ?_) (fun cdv f A outer s H vs Q E hr h => ?_)
  · obtain ⟨v, u, xs, ys, rfl, _⟩ := h
    rfl
  · obtain ⟨v, u, xs, ys, rfl, ⟨t, rfl, hq⟩, ⟨t', rfl, hq'⟩, hl, hz, hf, k⟩ := h
    refine ⟨_, pss_one (ps_ret (pe_callB (cr_sum rfl) (by rfl) T.sum rfl (pa_cons (pe_lc (own := [("_law_a", 2), ("_law_b", 3)]) (g := gTup K 2 (gCons (gName 2) (gCons (gName 3) gNil))) (tt := tYes) rfl sc_ldot.nd (RZ.pi_zipA (by rfl) T.zip (pa_cons (pv 0) (pa_cons (pv 1) pa_nil)))
        (blkOk_by (N := ["_law_first", "_law_second", "_law_a", "_law_b"]) (sc := defScope (top 51)) (by decide +kernel)) (fun _ _ _ _ _ => pg_tup rfl (pgs_cons (pg_name (i := 2) sc_ldot.nd rfl (Or.inl rfl)) (pgs_cons (pg_name (i := 3) sc_ldot.nd rfl (Or.inl rfl)) pgs_nil))) (fun _ _ _ _ _ => pts_nil) (fun _ _ _ _ _ => pe_op op_mul (pv 2) (pv 3))) pa_nil))), ?_⟩
    refine ⟨_, rfl, _, rfl, t, t', _, _, rfl, .inr ⟨hq, hq', fun D hD => dot_read (i := 2) (j := 3) hD hq hq' hl hz hf (by decide) (show 2 < 4 by decide) (show 3 < 4 by decide) rfl rfl fun H' s hd => ?_⟩⟩
    exact ⟨D, mulL xs ys, rfl, SqL.of hd, k H' s⟩
/-! _law_rests: 52 -/
def nRests : List Str := ["_law_way", "_law_beam", "_law_one", "_law_other", "_law_part_here"]
theorem sc_lrests : FnScope nRests ["_law_way", "_law_beam"] (defScope (top 52)) := ⟨rfl, rfl, rfl, by decide +kernel, rfl, by decide +kernel, by decide +kernel⟩
theorem c_lrests (T : Tx K mg) (D : DefAt K mg "_law_rests" (top 52)) : Cal P w K mg base "_law_rests" 1 ["_law_way", "_law_beam"] (spRest (K := K)) := by
  refine cal_mk D sc_lrests (fun _ _ _ _ _ _ us hl => match us, hl with | [_, _], _ => rfl) (fun vs H Q E h => ?_) (fun cdv f A outer s H vs Q E hr h => ?_)
  · obtain ⟨v, ns, m, rfl, _⟩ := h
    rfl
  · obtain ⟨v, ns, m, rfl, ⟨a, rfl, hs⟩, hm, hz, k⟩ := h
    refine ⟨_, pss_cons (ps_set (i := 2) sc_lrests.nd rfl (Or.inl rfl) (pe_tupleOf (by rfl) T.tuple (pe_lc (own := [("_law_part_here", 4)]) (g := gName 4) (tt := tYes) (te := tOp (rI (fun _ j => 0 < j) fun i j => .int (i % j)) (tCB (fun xs H Q => (∃ i, xs = [.int i] ∧ Q (.int i) H) ∨ ∃ k, xs = [.bl k] ∧ Q (.int (if k then 1 else 0)) H) (tCons (tVar 4) tNil)) (tVar 0)) rfl sc_lrests.nd (pi_seq (pv 1))
        (blkOk_by (N := nRests) (sc := defScope (top 52)) (by decide +kernel)) (fun _ _ _ _ _ => pg_name (i := 4) sc_lrests.nd rfl (Or.inl rfl)) (fun _ _ _ _ _ => pts_nil) (fun _ _ _ _ _ => pe_op op_mod (pe_callTy call_int1 (by rfl) T.int rfl (pa_cons (pv 4) pa_nil)) (pv 0)))))
      (pss_cons (ps_set (i := 3) sc_lrests.nd rfl (Or.inl rfl) (pe_tupleOf (by rfl) T.tuple (pe_lc (own := [("_law_part_here", 4)]) (g := gName 4) (tt := tYes) (te := tOp (rI (fun _ j => 0 < j) fun i j => .int (i % j)) (tCB (fun xs H Q => (∃ i, xs = [.int i] ∧ Q (.int i) H) ∨ ∃ k, xs = [.bl k] ∧ Q (.int (if k then 1 else 0)) H) (tCons (tOp (rI0 fun i j => .int (i - j)) (tC (.int 0)) (tVar 4)) tNil)) (tVar 0)) rfl sc_lrests.nd (pi_seq (pv 1))
        (blkOk_by (N := nRests) (sc := defScope (top 52)) (by decide +kernel)) (fun _ _ _ _ _ => pg_name (i := 4) sc_lrests.nd rfl (Or.inl rfl)) (fun _ _ _ _ _ => pts_nil) (fun _ _ _ _ _ => pe_op op_mod (pe_callTy call_int1 (by rfl) T.int rfl (pa_cons (pe_op op_sub pe_int (pv 4)) pa_nil)) (pv 0)))))
      (pss_one (ps_ret (pe_ifExp (pt_cmpR (op_ltT hr.units0) (pv 2) (pv 3) (nomark _)) (pv 2) (pv 3))))), ?_⟩
    have hm' : (0 : Int) < m := by omega
    dsimp only [tSeq, tAsg, tThen]
    refine lc_seq (i := 1) (j := 4) (a := a) (σ := [some (.int (m : Int)), some (.ref a), none, none, none]) (G := gI) (p := fun _ => true) (f := fun x => x % (m : Int)) rfl (pr_int ns) hs hz (fun _ => stbI) (lcT_yes fun _ => rfl) ?_ ?_
    · rintro v b _ rfl _ H' s Q q
      exact ⟨_, rfl, .inl ⟨_, rfl, _, rfl, _, _, rfl, rfl, hm', q _ _ (fun _ _ e => e) rfl⟩⟩
    · intro D1 hD1 H1 ys s1 hd1 pr1
      rw [filter_true] at pr1
      have e1 := pr_int_eq pr1
      subst e1
      refine .inl ⟨D1, _, rfl, SqL.of hd1, fun t1 ht1 => ?_⟩
      have s1' := s1.trans (same_upd (o := .tup ((ns.map fun x => x % (m : Int)).map V.int)) ht1)
      have hs1 : SqL K _ a (ns.map V.int) ∨ SqT K _ a (ns.map V.int) := hs.imp (fun q => q.ext s1') (fun q => q.ext s1')
      dsimp only [gName, tSeq, tAsg, tThen]
      refine lc_seq (i := 1) (j := 4) (a := a) (σ := [some (.int (m : Int)), some (.ref a), some (.ref t1), none, none]) (G := gI) (p := fun _ => true) (f := fun x => -x % (m : Int)) rfl (pr_int ns) hs1 hz (fun _ => stbI) (lcT_yes fun _ => rfl) ?_ ?_
      · rintro v b _ rfl _ H' s Q q
        refine ⟨_, rfl, _, _, rfl, rfl, .inl ⟨_, rfl, _, rfl, _, _, rfl, rfl, hm', q _ _ (fun _ _ e => e) ?_⟩⟩
        show V.int ((0 - b) % (m : Int)) = V.int (-b % (m : Int))
        rw [Int.zero_sub]
      · intro D2 hD2 H2 ys s2 hd2 pr2
        rw [filter_true] at pr2
        have e2 := pr_int_eq pr2
        subst e2
        refine .inl ⟨D2, _, rfl, SqL.of hd2, fun t2 ht2 => ?_⟩
        have q1 : SqT K _ t1 ((ns.map fun x => x % (m : Int)).map V.int) := (SqT.of upd_same).ext (s2.trans (same_upd (o := .tup ((ns.map fun x => -x % (m : Int)).map V.int)) ht2))
        have q2 : SqT K (upd H2 t2 (.tup ((ns.map fun x => -x % (m : Int)).map V.int))) t2 ((ns.map fun x => -x % (m : Int)).map V.int) := SqT.of upd_same
        have sa := (s1'.trans s2).trans (same_upd (o := .tup ((ns.map fun x => -x % (m : Int)).map V.int)) ht2)
        refine ⟨_, rfl, _, rfl, t1, t2, _, _, rfl, rfl, q1, q2, _, rfl, ?_⟩
        cases c : HT.lexLt (ns.map fun x => x % (m : Int)) (ns.map fun x => -x % (m : Int)) with
        | true =>
          refine ite_t rfl ⟨_, rfl, k _ _ sa ⟨t1, rfl, ?_⟩⟩
          unfold canon
          rw [if_pos c]
          exact q1
        | false =>
          refine ite_f rfl ⟨_, rfl, k _ _ sa ⟨t2, rfl, ?_⟩⟩
          unfold canon
          rw [if_neg (by rw [c]; decide)]
          exact q2
/-! _law_is_for: 54 -/
theorem sc_isfor : FnScope ["_law_way", "_law_beam", "_law_far"] ["_law_way", "_law_beam"] (defScope (top 54)) := ⟨rfl, rfl, rfl, by decide +kernel, rfl, by decide +kernel, by decide +kernel⟩
theorem c_isfor (T : Tx K mg) (D : DefAt K mg "_law_is_for" (top 54)) (C1 : Cal P w K mg base "_law_dot" 1 ["_law_first", "_law_second"] (spDot (K := K))) : Cal P w K mg base "_law_is_for" 2 ["_law_way", "_law_beam"] (spRuled (K := K)) := by
  refine cal_mk D sc_isfor (fun _ _ _ _ _ _ us hl => match us, hl with | [_, _], _ => rfl) (fun vs H Q E h => ?_) (fun cdv f A outer s H vs Q E hr h => ?_)
  · obtain ⟨v, ns, m, rfl, _⟩ := h
    rfl
  · obtain ⟨v, ns, m, rfl, hq, hm, hz, hf, k⟩ := h
    refine ⟨_, pss_cons (ps_set (i := 2) sc_isfor.nd rfl (Or.inl rfl) (pe_cal C1 hr (pa_cons (pv 1) (pa_cons (pv 1) pa_nil)))) (pss_one (ps_ret (pe_ifExp (pt_cmpR op_eq (pv 0) pe_int (nomark _)) (pe_cmpR op_in_seq (pe_op op_mod (pe_callTy call_int1 (by rfl) T.int rfl (pa_cons (pv 2) pa_nil)) pe_int) (pe_tup (pa_cons pe_int (pa_cons pe_int (pa_cons pe_int (pa_cons pe_int (pa_cons pe_int (pa_cons pe_int pa_nil))))))) rfl) (pe_cmpR op_ne (pe_op op_mod (pe_callTy call_int1 (by rfl) T.int rfl (pa_cons (pv 2) pa_nil)) (pv 0)) pe_int (nomark _))))), ?_⟩
    refine ⟨_, rfl, _, rfl, v, v, ns, ns, rfl, hq, hq, rfl, hz, hf, fun H' s => ⟨_, rfl, rfl, _, rfl, ?_⟩⟩
    have hk := k H' s
    by_cases c : m = 4
    · subst c
      refine ite_t (by decide) ⟨_, rfl, .inl ⟨_, rfl, _, _, rfl, rfl, show (0 : Int) < 16 by decide, by show 6 ≤ sizeLine; decide, fun p hp => ⟨p, ([1, 2, 3, 6, 9, 11] : List Int).map V.int, rfl, .inr (SqT.of upd_same), rfl, flat_ints _, ?_⟩⟩⟩
      rw [inV_ints]
      exact k _ (s.trans (same_upd hp))
    · refine ite_f (by simp; omega) ⟨_, rfl, .inl ⟨_, rfl, _, rfl, _, _, rfl, rfl, by omega, rfl, ?_⟩⟩
      unfold ruled at hk
      rw [if_neg c] at hk
      have e2 : (!decide (V.int (dot ns ns % (m : Int)) = V.int 0)) = !decide (dot ns ns % (m : Int) = 0) := by simp
      rw [e2]
      exact hk
end
end RM
namespace RM
open PySem PySem.Spec PyProof.Rows L2
/-- a written tuple of ints -/
def tTupC (ns : List Int) : TE := fun _ H Q => ∀ p, H p = none → Q (.ref p) (upd H p (.tup (ns.map V.int)))
section
variable {X : Cx} {j1 j2 j3 j4 j5 kk : Nat} {p1 p2 p3 p4 p5 pos : Pos}
theorem pe_tup3 {a b c : Int} : PE X (.Tuple [.Constant (.int a) j1 p1, .Constant (.int b) j2 p2, .Constant (.int c) j3 p3] kk pos) (tTupC [a, b, c]) :=
  ⟨fun pins s σ H Q I h => (pe_tup (pa_cons pe_int (pa_cons pe_int (pa_cons pe_int pa_nil)))).run pins s σ H Q I ⟨by show 3 ≤ sizeLine; decide, h⟩⟩
theorem pe_tup4 {a b c d : Int} : PE X (.Tuple [.Constant (.int a) j1 p1, .Constant (.int b) j2 p2, .Constant (.int c) j3 p3, .Constant (.int d) j4 p4] kk pos) (tTupC [a, b, c, d]) :=
  ⟨fun pins s σ H Q I h => (pe_tup (pa_cons pe_int (pa_cons pe_int (pa_cons pe_int (pa_cons pe_int pa_nil))))).run pins s σ H Q I ⟨by show 4 ≤ sizeLine; decide, h⟩⟩
theorem pe_tup5 {a b c d e : Int} : PE X (.Tuple [.Constant (.int a) j1 p1, .Constant (.int b) j2 p2, .Constant (.int c) j3 p3, .Constant (.int d) j4 p4, .Constant (.int e) j5 p5] kk pos) (tTupC [a, b, c, d, e]) :=
  ⟨fun pins s σ H Q I h => (pe_tup (pa_cons pe_int (pa_cons pe_int (pa_cons pe_int (pa_cons pe_int (pa_cons pe_int pa_nil)))))).run pins s σ H Q I ⟨by show 5 ≤ sizeLine; decide, h⟩⟩
end
def tCs : List (List Int) → TA
  | [] => tNil
  | ns :: Ls => tCons (tTupC ns) (tCs Ls)
theorem tcs_read {K : PySem.W.Frag} : ∀ (Ls : List (List Int)) (σ : L2.St) (H : Hp) (Q : List V → Hp → Prop), (∀ H' vs, Same H H' → Paired (gT K H') vs Ls → Q vs H') → tCs Ls σ H Q
  | [], σ, H, Q, q => q H [] (fun _ _ e => e) .nil
  | ns :: Ls, σ, H, Q, q => fun p hp => tcs_read Ls σ _ _ fun H' vs s pr => q H' _ ((same_upd hp).trans s) (.cons ⟨p, rfl, (SqT.of upd_same).ext s⟩ pr)
section
variable {P : Program} {w : World} {K : PySem.W.Frag} {mg : Str → Option Value} {base : Heap}
/-! _law_list: 53 -/
def spList : Sp := fun vs H Q _ => ∃ p : Nat × Nat, vs = [.int (p.1 : Int), .int (p.2 : Int)] ∧ p ∈ rules ∧ ∀ H' a xs, Same H H' → H' a = some (.lst xs) → Paired (gT K H') xs (tab p.1 p.2) → Q (.ref a) H'
theorem sc_llist : FnScope ["_law_wide", "_law_way"] ["_law_wide", "_law_way"] (defScope (top 53)) := ⟨rfl, rfl, rfl, by decide +kernel, rfl, by decide +kernel, by decide +kernel⟩
theorem c_llist (D : DefAt K mg "_law_list" (top 53)) : Cal P w K mg base "_law_list" 1 ["_law_wide", "_law_way"] (spList (K := K)) := by
  refine cal_mk D sc_llist (fun _ _ _ _ _ _ us hl => match us, hl with | [_, _], _ => rfl) (fun vs H Q E h => ?_) (fun cdv f A outer s H vs Q E hr h => ?_)
  · obtain ⟨p, rfl, _⟩ := h
    rfl
  · obtain ⟨p, rfl, hp, k⟩ := h
    refine ⟨_, pss_cons (ps_if (pt_cmpR op_eq (pv 0) pe_int (nomark _)) (pss_one (ps_ret (pe_lst (pa_cons pe_tup5 (pa_cons pe_tup5 (pa_cons pe_tup5 pa_nil)))))) pss_nil)
      (pss_cons (ps_if (pt_cmpR op_eq (pv 0) pe_int (nomark _)) (pss_one (ps_ret (pe_lst (pa_cons pe_tup4 (pa_cons pe_tup4 pa_nil))))) pss_nil)
      (pss_cons (ps_if (pt_cmpR op_eq (pv 1) pe_int (nomark _)) (pss_one (ps_ret (pe_lst (pa_cons pe_tup3 pa_nil)))) pss_nil)
      (pss_cons (ps_if (pt_cmpR op_eq (pv 1) pe_int (nomark _)) (pss_one (ps_ret (pe_lst (pa_cons pe_tup3 (pa_cons pe_tup3 (pa_cons pe_tup3 pa_nil)))))) pss_nil)
      (pss_one (ps_ret (pe_lst (pa_cons pe_tup3 (pa_cons pe_tup3 (pa_cons pe_tup3 (pa_cons pe_tup3 (pa_cons pe_tup3 (pa_cons pe_tup3 (pa_cons pe_tup3 (pa_cons pe_tup3 pa_nil)))))))))))))), ?_⟩
    have fin : ∀ (Ls : List (List Int)) (σ : L2.St), Ls.length ≤ 8 → Ls = tab p.1 p.2 → tLst (tCs Ls) σ H Q := by
      intro Ls σ hl e
      refine tcs_read (K := K) Ls σ H _ fun H' vs s pr => ⟨by rw [pr.length, sizeLine_eq]; omega, fun q hq => k _ q vs (s.trans (same_upd hq)) upd_same ?_⟩
      rw [← e]
      exact pr_same pr (same_upd hq)
    have hp' : p = (3, 2) ∨ p = (3, 3) ∨ p = (3, 4) ∨ p = (4, 2) ∨ p = (5, 2) := by simpa [rules] using hp
    rcases hp' with rfl | rfl | rfl | rfl | rfl
    · exact ⟨_, rfl, rfl, _, rfl, ite_f (by decide) ⟨_, rfl, rfl, _, rfl, ite_f (by decide) ⟨_, rfl, rfl, _, rfl, ite_t (by decide) (fin [[1, 0, 0]] _ (by decide) rfl)⟩⟩⟩
    · exact ⟨_, rfl, rfl, _, rfl, ite_f (by decide) ⟨_, rfl, rfl, _, rfl, ite_f (by decide) ⟨_, rfl, rfl, _, rfl, ite_f (by decide) ⟨_, rfl, rfl, _, rfl, ite_t (by decide) (fin [[0, 0, 1], [0, 1, 1], [1, 0, 1]] _ (by decide) rfl)⟩⟩⟩⟩
    · exact ⟨_, rfl, rfl, _, rfl, ite_f (by decide) ⟨_, rfl, rfl, _, rfl, ite_f (by decide) ⟨_, rfl, rfl, _, rfl, ite_f (by decide) ⟨_, rfl, rfl, _, rfl, ite_f (by decide) (fin [[0, 0, 1], [0, 1, 1], [1, 0, 1], [1, 1, 2], [1, 2, 1], [1, 3, 2], [2, 1, 1], [2, 2, 1]] _ (by decide) rfl)⟩⟩⟩⟩
    · exact ⟨_, rfl, rfl, _, rfl, ite_f (by decide) ⟨_, rfl, rfl, _, rfl, ite_t (by decide) (fin [[1, 0, 0, 0], [1, 0, 1, 1]] _ (by decide) rfl)⟩⟩
    · exact ⟨_, rfl, rfl, _, rfl, ite_t (by decide) (fin [[1, 0, 0, 0, 0], [1, 0, 0, 1, 1], [1, 1, 1, 0, 0]] _ (by decide) rfl)⟩
end
end RM
namespace RM
open PySem PySem.Spec PyProof.Rows L2
section
variable {α : Type} {i n : Nat} {lo c : Int} {tt : TT} {te : TE} {σ : L2.St} {H1 : Hp} {D : Addr} {Qd : Hp → Prop} {G : Hp → V → α → Prop} {p : Nat → Bool} {f : Nat → α}
/-- over a range by steps -/
theorem lcC (hD : H1 D = none) (hz : n ≤ sizeLine) (hG : Stb D G) (ht : LcT (fun v k => v = .int (lo + (k : Nat) * c)) (List.range n) i σ H1 tt p) (he : LcE (fun v k => v = .int (lo + (k : Nat) * c)) (List.range n) i σ H1 te p G f) (hd : LcD (List.range n) H1 D p G f Qd) :
    ∃ W : Nat → Nat → Hp → Prop, (∃ m, W 0 m (upd H1 D (.lst []))) ∧ ∀ j m H, W j m H →
      ((Itc lo c n).stop j H ∧ Qd H) ∨ ((Itc lo c n).go j H ∧ ∃ Nx : Hp → Prop, (∀ H', Nx H' → ∃ m', m' < m ∧ W (j + 1) m' H') ∧ ∀ x H', (Itc lo c n).yld j H x H' → gName i x (wipe σ [i]) H' fun σ2 H2 => wipe σ2 [i] = wipe σ [i] ∧ tt σ2 H2 fun b H3 =>
        if b = true then te σ2 H3 fun y H4 => ∃ acc, H4 D = some (.lst acc) ∧ acc.length < sizeLine ∧ Nx (upd H4 D (.lst (acc ++ [y]))) else Nx H3) := by
  refine ⟨fun k m H => (m = n - k ∧ k ≤ n) ∧ LcP D H1 G (fun k => (((List.range n).take k).filter p).map f) k H, ⟨n, ⟨by simp, Nat.zero_le _⟩, lcp_start hD (by simp)⟩, ?_⟩
  rintro k m H ⟨⟨rfl, hk⟩, h⟩
  rcases Nat.lt_or_ge k n with hlt | hge
  · refine .inr ⟨hlt, LcP D H1 G (fun k => (((List.range n).take k).filter p).map f) (k + 1), fun H' p' => ⟨n - (k + 1), by omega, ⟨rfl, hlt⟩, p'⟩, fun x H' y => ?_⟩
    obtain ⟨e, y⟩ := y
    subst e y
    have hb : (List.range n)[k]? = some k := by rw [List.getElem?_range hlt]
    exact lcp_turn hD (by rw [List.length_range]; exact hz) hG hb (ht _ k (List.mem_of_getElem? hb) rfl) (fun e => he _ k (List.mem_of_getElem? hb) rfl e) h
  · obtain rfl : k = n := by omega
    refine .inl ⟨Nat.le_refl _, ?_⟩
    obtain ⟨sm, acc, ha, pa⟩ := h
    refine hd H acc sm ha ?_
    have e : (List.range k).take k = List.range k := List.take_of_length_le (by rw [List.length_range]; exact Nat.le_refl _)
    simpa only [e] using pa
end
section
variable {P : Program} {w : World} {K : PySem.W.Frag} {mg : Str → Option Value} {base : Heap}
/-! _law_axes: 57 -/
def spAxes : Sp := fun vs H Q _ => ∃ n : Nat, vs = [.int (n : Int)] ∧ n ≤ 5 ∧ ∀ H' a xs, Same H H' → H' a = some (.lst xs) → Paired (gT K H') xs (axesL n) → Q (.ref a) H'
def nAxes : List Str := ["_law_wide", "_law_spot", "_law_k"]
theorem sc_axes : FnScope nAxes ["_law_wide"] (defScope (top 57)) := ⟨rfl, rfl, rfl, by decide +kernel, rfl, by decide +kernel, by decide +kernel⟩
def rInt1 : List V → Hp → VK → Prop := fun xs H Q => (∃ i, xs = [.int i] ∧ Q (.int i) H) ∨ ∃ k, xs = [.bl k] ∧ Q (.int (if k then 1 else 0)) H
theorem c_axes (T : Tx K mg) (D : DefAt K mg "_law_axes" (top 57)) : Cal P w K mg base "_law_axes" 1 ["_law_wide"] (spAxes (K := K)) := by
  refine cal_mk D sc_axes (fun _ _ _ _ _ _ us hl => match us, hl with | [_], _ => rfl) (fun vs H Q E h => ?_) (fun cdv f A outer s H vs Q E hr h => ?_)
  · obtain ⟨n, rfl, _⟩ := h
    rfl
  · obtain ⟨n, rfl, hn, k⟩ := h
    refine ⟨_, pss_one (ps_ret (pe_lc (own := [("_law_spot", 1)]) (g := gName 1) (tt := tYes) (te := tThen (tLc (iRng1 (tCons (tVar 0) tNil)) (gName 2) tYes (tCB rInt1 (tCons (tOp rEq (tVar 2) (tVar 1)) tNil)) [2]) (kTup K)) rfl sc_axes.nd (pi_range3 (by rfl) T.range (pa_cons (pe_op op_sub (pv 0) pe_int) (pa_cons (pe_un un_neg pe_int) (pa_cons (pe_un un_neg pe_int) pa_nil))))
        (blkOk_by (N := nAxes) (sc := defScope (top 57)) (by decide +kernel)) (fun _ _ _ _ _ => pg_name (i := 1) sc_axes.nd rfl (Or.inr rfl)) (fun _ _ _ _ _ => pts_nil)
        (fun _ _ _ _ _ => pe_tupleOf (by rfl) T.tuple (pe_lc (own := [("_law_k", 2)]) (g := gName 2) (tt := tYes) (te := tCB rInt1 (tCons (tOp rEq (tVar 2) (tVar 1)) tNil)) rfl sc_axes.nd (pi_range1 (by rfl) T.range (pa_cons (pv 0) pa_nil))
          (blkOk_by (N := nAxes) (own := [("_law_k", 2)]) (by rfl)) (fun _ _ _ _ _ => pg_name (i := 2) sc_axes.nd rfl (Or.inl rfl)) (fun _ _ _ _ _ => pts_nil)
          (fun _ _ _ _ _ => pe_callTy call_int1 (by rfl) T.int rfl (pa_cons (pe_cmpR op_eq (pv 2) (pv 1) (nomark _)) pa_nil)))))), ?_⟩
    have hs5 : n ≤ sizeLine := by rw [sizeLine_eq]; omega
    refine ⟨_, rfl, _, _, rfl, rfl, 1, rfl, 1, rfl, _, _, _, _, rfl, RgC.neg (i := (n : Int) - 1) (j := -1) (by omega) (by omega) (by omega) (by omega), fun D hD => ?_⟩
    have e0 : ((n : Int) - 1 - -1).toNat = n := by omega
    rw [e0]
    refine lcC (G := gT K) (p := fun _ => true) (f := fun (i : Nat) => (List.range n).map fun (k : Nat) => if k = n - 1 - i then (1 : Int) else 0) hD hs5 stbT (lcT_yes fun _ => rfl) ?_ ?_
    · rintro v i hi rfl _ H' s Q q
      have hi := List.mem_range.mp hi
      refine ⟨_, rfl, (n : Int), rfl, by omega, by omega, ?_⟩
      rw [show ((n : Int)).toNat = n from by omega]
      refine fun D2 hD2 => lcR (n := n) (G := gI) (p := fun _ => true) (f := fun (k : Nat) => if k = n - 1 - i then (1 : Int) else 0) hD2 hs5 stbI (lcT_yes fun _ => rfl) ?_ ?_
      · rintro v k hk rfl _ H2 s2 Q q
        refine ⟨_, rfl, _, rfl, rfl, .inr ⟨_, rfl, q _ _ (fun _ _ e => e) ?_⟩⟩
        show V.int (if decide (V.int (0 + (k : Nat)) = V.int ((n : Int) - 1 + (i : Nat) * -1)) = true then 1 else 0) = V.int (if k = n - 1 - i then 1 else 0)
        by_cases c : k = n - 1 - i
        · rw [if_pos c, if_pos (decide_eq_true (by congr 1; omega))]
        · rw [if_neg c, if_neg (by simp; omega)]
      · intro H2 ys s2 hd2 pr2
        rw [filter_true] at pr2
        have e2 := pr_int_eq pr2
        subst e2
        exact .inl ⟨D2, _, rfl, SqL.of hd2, fun t2 ht2 => q _ _ (s2.trans (same_upd ht2)) ⟨t2, rfl, SqT.of upd_same⟩⟩
    · intro H2 ys s2 hd2 pr2
      rw [filter_true] at pr2
      exact k H2 D ys s2 hd2 pr2
end
end RM
namespace RM
open PySem PySem.Spec PyProof.Rows L2
theorem tupI_keep {K : PySem.W.Frag} {D : Addr} {H H' : Hp} {x : V} {ns : List Int} {u : HO} (h : TupI K H x ns) (e : Kb D H H') (n : H D = some u) (h1 : ∀ xs, u ≠ .tup xs) (h2 : ∀ o x, u ≠ .frz o x) : TupI K H' x ns := by
  obtain ⟨t, rfl, (h | ⟨o, h⟩) | h⟩ := h
  · exact ⟨t, rfl, .inl (.inl (e _ _ h (ne_of h n (fun z => h1 _ z.symm))))⟩
  · exact ⟨t, rfl, .inl (.inr ⟨o, e _ _ h (ne_of h n (fun z => h2 _ _ z.symm))⟩)⟩
  · exact ⟨t, rfl, .inr h⟩
theorem pr_addr {K : PySem.W.Frag} {H : Hp} : ∀ {vs : List V} {Ls : List (List Int)}, Paired (gT K H) vs Ls → ∃ ks : List (Addr × List Int), vs = ks.map (fun p => V.ref p.1) ∧ (∀ p ∈ ks, SqT K H p.1 (p.2.map V.int)) ∧ ks.map (·.2) = Ls
  | _, _, .nil => ⟨[], rfl, fun p h => absurd h (by simp), rfl⟩
  | _, n :: _, .cons ⟨t, e, q⟩ tl => by
    obtain ⟨ks, e1, e2, e3⟩ := pr_addr tl
    refine ⟨(t, n) :: ks, ?_, fun p hp => ?_, ?_⟩
    · rw [List.map_cons, e1, e]
    · rcases List.mem_cons.mp hp with rfl | hp
      · exact q
      · exact e2 p hp
    · rw [List.map_cons, e3]
theorem ixN_at {n j : Nat} (h : j < n) : ixN n (j : Int) = some j := by
  unfold ixN
  rw [if_pos (by omega)]
  simp <;> omega
theorem room65 {A : Around} {k : Nat} (hr : Room k A) : A.units + 65 < cLine := by have := hr.un; omega
theorem pr_back {K : PySem.W.Frag} {H : Hp} : ∀ (ks : List (Addr × List Int)), (∀ p ∈ ks, SqT K H p.1 (p.2.map V.int)) → Paired (gT K H) (ks.map fun p => V.ref p.1) (ks.map (·.2))
  | [], _ => .nil
  | p :: ks, h => .cons ⟨p.1, rfl, h p (List.mem_cons_self ..)⟩ (pr_back ks fun q m => h q (List.mem_cons_of_mem _ m))
section
variable {P : Program} {w : World} {K : PySem.W.Frag} {mg : Str → Option Value} {base : Heap}
/-! _law_marks_of: 61 -/
def spMarks : Sp := fun vs H Q _ => ∃ (p : Nat × Nat) (t : List Nat) (ns : List Int) (v u : V), vs = [.int (p.2 : Int), v, u] ∧ p ∈ rules ∧ TupI K H v (oI t) ∧ Ord p.1 t ∧ TupI K H u ns ∧ ns.length = p.1 ∧ ∀ H', Same H H' → Q (.bl (marked p.1 p.2 t ns)) H'
def nMarks : List Str := ["_law_way", "_law_turn", "_law_beam", "_law_k"]
theorem sc_marks : FnScope nMarks ["_law_way", "_law_turn", "_law_beam"] (defScope (top 61)) := ⟨rfl, rfl, rfl, by decide +kernel, rfl, by decide +kernel, by decide +kernel⟩
theorem c_marks (T : Tx K mg) (D : DefAt K mg "_law_marks_of" (top 61)) (C1 : Cal P w K mg base "_law_rests" 1 ["_law_way", "_law_beam"] (spRest (K := K))) (C2 : Cal P w K mg base "_law_list" 1 ["_law_wide", "_law_way"] (spList (K := K))) : Cal P w K mg base "_law_marks_of" 2 ["_law_way", "_law_turn", "_law_beam"] (spMarks (K := K)) := by
  refine cal_mk D sc_marks (fun _ _ _ _ _ _ us hl => match us, hl with | [_, _, _], _ => rfl) (fun vs H Q E h => ?_) (fun cdv f A outer s H vs Q E hr h => ?_)
  · obtain ⟨p, t, ns, v, u, rfl, _⟩ := h
    rfl
  · obtain ⟨p, t, ns, v, u, rfl, hp, ⟨a, rfl, hq⟩, O, ⟨b, rfl, hb⟩, hl, k⟩ := h
    obtain ⟨p3, p5, m2, m4⟩ := rule_small hp
    refine ⟨_, pss_one (ps_ret (pe_cmpR (op_inD (room65 hr)) (pe_cal C1 hr (pa_cons (pv 0) (pa_cons (pe_tupleOf (by rfl) T.tuple (pe_lc (own := [("_law_k", 3)]) (g := gName 3) (tt := tYes) (te := tOp (rIxT K) (tVar 2) (tVar 3)) rfl sc_marks.nd (pi_tup (pv 1)) (blkOk_by (N := nMarks) (sc := defScope (top 61)) (by decide +kernel)) (fun _ _ _ _ _ => pg_name (i := 3) sc_marks.nd rfl (Or.inl rfl)) (fun _ _ _ _ _ => pts_nil)
        (fun _ _ _ _ _ => pe_ix ix_tup (pv 2) (pv 3) (fun _ _ => rfl)))) pa_nil))) (pe_cal C2 hr (pa_cons (pe_callB call_len (by rfl) T.len rfl (pa_cons (pv 1) pa_nil)) (pa_cons (pv 0) pa_nil))) rfl)), ?_⟩
    have hz : (oI t).length ≤ sizeLine := by rw [oI_len, O.len, sizeLine_eq]; omega
    refine ⟨_, rfl, _, rfl, a, rfl, ⟨_, hq⟩, fun D hD => lcTu (R := fun v n => v = .int n) (bs := oI t) (G := gI) (p := fun _ => true) (f := fun k => ns.getD k.toNat 0) (pr_int (oI t)) hq hD hz stbI (lcT_yes fun _ => rfl) ?_ ?_⟩
    · rintro v n hn rfl _ H' s Q q
      obtain ⟨k, hk, rfl⟩ := List.mem_map.mp hn
      have hi : k < ns.length := by rw [hl]; exact O.lt k hk
      refine ⟨_, rfl, _, rfl, b, ns.map V.int, (k : Int), .int (ns.getD k 0), rfl, rfl, hb.ext s, atI_nat ?_, q _ _ (fun _ _ e => e) rfl⟩
      rw [List.getElem?_map, List.getD_eq_getElem?_getD, List.getElem?_eq_getElem hi]
      rfl
    · intro H1 ys s1 hd1 pr1
      rw [filter_true] at pr1
      have e := pr_int_eq pr1
      subst e
      have e2 : (oI t).map (fun k => ns.getD k.toNat 0) = t.map fun k => ns.getD k 0 := by
        unfold oI
        rw [List.map_map]
        exact List.map_congr_left fun k _ => by show ns.getD ((k : Int)).toNat 0 = _; rw [Int.toNat_natCast]
      rw [e2] at hd1
      refine .inl ⟨D, _, rfl, SqL.of hd1, fun q hq1 => ⟨_, _, p.2, rfl, ⟨q, rfl, .inr (SqT.of upd_same)⟩, by omega, by rw [List.length_map, O.len, sizeLine_eq]; omega, fun H2 y s2 hy => ?_⟩⟩
      have sA := (s1.trans (same_upd (o := .tup ((t.map fun k => ns.getD k 0).map V.int)) hq1)).trans s2
      refine ⟨_, rfl, _, _, rfl, .inr ⟨_, hq.ext sA, rfl⟩, _, rfl, p, ?_, hp, fun H3 l xs s3 hl3 pr3 => ?_⟩
      · rw [List.length_map, oI_len, O.len]
        rfl
      · refine ⟨dT (canon p.2 (t.map fun k => ns.getD k 0)), (tab p.1 p.2).map dT, dp_tup (tupI_same hy s3), dp_list (SqL.of hl3) pr3, shp_dT _, shp_dL _, ?_⟩
        rw [any_dT]
        exact k H3 (sA.trans s3)
/-! _law_moved: 59 -/
def spMoved : Sp := fun vs H Q _ => ∃ (p : Nat × Nat) (t : List Nat) (v : V), vs = [.int (p.1 : Int), .int (p.2 : Int), v] ∧ p ∈ rules ∧ TupI K H v (oI t) ∧ t ∈ permsOf p.1 ∧ ∀ H' a xs, Same H H' → H' a = some (.lst xs) → Paired (gT K H') xs (moved p.1 p.2 t) → Q (.ref a) H'
def nMoved : List Str := ["_law_wide", "_law_way", "_law_turn", "_law_found", "_law_rests_here", "_law_entries", "_law_k"]
theorem sc_moved : FnScope nMoved ["_law_wide", "_law_way", "_law_turn"] (defScope (top 59)) := ⟨rfl, rfl, rfl, by decide +kernel, rfl, by decide +kernel, by decide +kernel⟩
theorem tab_len : ∀ p ∈ rules, (tab p.1 p.2).length ≤ 8 ∧ ∀ r ∈ tab p.1 p.2, r.length = p.1 := by decide
theorem c_moved (T : Tx K mg) (D : DefAt K mg "_law_moved" (top 59)) (C1 : Cal P w K mg base "_law_rests" 1 ["_law_way", "_law_beam"] (spRest (K := K))) (C2 : Cal P w K mg base "_law_list" 1 ["_law_wide", "_law_way"] (spList (K := K))) : Cal P w K mg base "_law_moved" 2 ["_law_wide", "_law_way", "_law_turn"] (spMoved (K := K)) := by
  refine cal_mk D sc_moved (fun _ _ _ _ _ _ us hl => match us, hl with | [_, _, _], _ => rfl) (fun vs H Q E h => ?_) (fun cdv f A outer s H vs Q E hr h => ?_)
  · obtain ⟨p, t, v, rfl, _⟩ := h
    rfl
  · obtain ⟨p, t, v, rfl, hp, ⟨a, rfl, hq⟩, ht, k⟩ := h
    have O := ord_of hp ht
    obtain ⟨p3, p5, m2, m4⟩ := rule_small hp
    obtain ⟨tl8, trl⟩ := tab_len p hp
    refine ⟨_, pss_cons (ps_set (i := 3) sc_moved.nd rfl (Or.inl rfl) (pe_lst pa_nil))
      (pss_cons (ps_for PassesOwn.never rfl (pi_list (pe_cal C2 hr (pa_cons (pv 0) (pa_cons (pv 1) pa_nil)))) (pg_name (i := 4) sc_moved.nd rfl (Or.inl rfl))
        (pss_cons (ps_set (i := 5) sc_moved.nd rfl (Or.inl rfl) (pe_op op_rep (pe_lst (pa_cons pe_int pa_nil)) (pv 0)))
        (pss_cons (ps_for PassesOwn.never rfl (pi_range1 (by rfl) T.range (pa_cons (pv 0) pa_nil)) (pg_name (i := 6) sc_moved.nd rfl (Or.inl rfl))
            (pss_one (ps_asg (pe_ix ix_tup (pv 4) (pv 6) (fun _ _ => rfl)) (pg_sub (pv 5) (pe_ix ix_tup (pv 2) (pv 6) (fun _ _ => rfl)) set_list))))
        (pss_one (ps_expr (pe_bm PySem.F.plainAttrs_list PySem.F.slot_list_append PySem.F.type_list_append mt_append (pv 3) (pa_cons (pe_cal C1 hr (pa_cons (pv 1) (pa_cons (pe_tupleOf (by rfl) T.tuple (pv 5)) pa_nil))) pa_nil)))))))
      (pss_one (ps_ret (pe_callB (cr_sortedT rfl) (by rfl) T.sorted rfl (pa_cons (pe_callTy (cr_setOfT rfl hr.units) (by rfl) T.set rfl (pa_cons (pv 3) pa_nil)) pa_nil))))), ?_⟩
    have hF0 : ∀ o5 : Option V, True := fun _ => trivial
    refine ⟨by show 0 ≤ sizeLine; decide, fun F hF => ⟨_, rfl, _, rfl, p, rfl, hp, fun H2 L xs s2 hL pr => ⟨L, rfl, ⟨_, SqL.of hL⟩, ?_⟩⟩⟩
    have hF2 : H2 F = some (.lst []) := s2 _ _ upd_same
    have sHH2 : Same H H2 := (same_upd hF).trans s2
    have hLF : L ≠ F := by
      rintro rfl
      rw [hF2] at hL
      have e : ([] : List V) = xs := by injection (Option.some.inj hL)
      have h1 := pr.length
      have h2 : ∀ p ∈ rules, 0 < (tab p.1 p.2).length := by decide
      have h3 := h2 p hp
      rw [← e] at h1
      have h4 : (0 : Nat) = (tab p.1 p.2).length := h1
      omega
    refine for_list (xs := xs) (fun i σ H' => ∃ o4 o5 o6 acc, σ = [some (.int (p.1 : Int)), some (.int (p.2 : Int)), some (.ref a), some (.ref F), o4, o5, o6] ∧ Kb F H2 H' ∧ H' F = some (.lst acc) ∧ Paired (gT K H') acc (((tab p.1 p.2).take i).map fun r => canon p.2 (placeL p.1 t r)))
      ⟨none, none, none, [], rfl, Kb.refl, hF2, .nil⟩ ?_ ?_ ?_
    · rintro i σ H' _ ⟨_, _, _, _, _, kb, _⟩
      exact SqL.of (kb _ _ hL hLF)
    · rintro i x σ H' hx ⟨o4, o5, o6, acc, rfl, kb, hF', pa⟩
      obtain ⟨r, hr2, hxr⟩ := pr_get pr hx
      have hrl : r.length = p.1 := trl r (List.mem_of_getElem? hr2)
      obtain ⟨b, rfl, hbq⟩ := tupI_kb hxr kb hF2
      refine ⟨by show 1 ≤ sizeLine; decide, fun Z hZ => ⟨_, rfl, Z, (p.1 : Int), [.int 0], rfl, rfl, upd_same, by omega, by omega, ?_, fun M hM => ?_⟩⟩
      · rw [sizeLine_eq, Int.toNat_natCast]
        show 1 * p.1 ≤ _
        omega
      have s4 : Same H' (upd H' Z (.lst [.int 0])) := same_upd hZ
      have eM : (List.replicate ((p.1 : Nat) : Int).toNat [V.int 0]).flatten = (List.replicate p.1 (0 : Int)).map V.int := by
        rw [Int.toNat_natCast, List.map_replicate]
        generalize p.1 = n
        induction n with
        | zero => rfl
        | succ n ih => rw [List.replicate_succ, List.flatten_cons, ih, List.replicate_succ]; rfl
      rw [eM]
      refine ⟨_, rfl, (p.1 : Int), rfl, by omega, by omega, ?_⟩
      rw [Int.toNat_natCast]
      refine for_range (n := p.1) (fun j σ H6 => ∃ o6, σ = [some (.int (p.1 : Int)), some (.int (p.2 : Int)), some (.ref a), some (.ref F), some (.ref b), some (.ref M), o6] ∧ Kb M (upd (upd H' Z (.lst [.int 0])) M (.lst ((List.replicate p.1 (0 : Int)).map V.int))) H6 ∧
        H6 M = some (.lst (((List.range j).foldl (fun e k => e.set (t.getD k 0) (r.getD k 0)) (List.replicate p.1 0)).map V.int))) ⟨o6, rfl, Kb.refl, upd_same⟩ ?_ ?_
      · rintro j σ H6 hj ⟨o6, rfl, kM, hM6⟩
        have s6 : Same H' H6 := fun c o e => kM c o (by rw [upd_ne (ne_of_none (s4 _ _ e) hM)]; exact s4 _ _ e) (ne_of_none (s4 _ _ e) hM)
        have qa : SqT K H6 a ((oI t).map V.int) := sqT_kb (hq.ext sHH2) kb hF2 |>.ext s6
        have hjt : j < t.length := by rw [O.len]; exact hj
        have hjr : j < r.length := by rw [hrl]; exact hj
        have hel : ∀ n, ((List.range n).foldl (fun e k => e.set (t.getD k 0) (r.getD k 0)) (List.replicate p.1 (0 : Int))).length = p.1 := by
          intro n
          induction n with
          | zero => simp
          | succ n ih => rw [List.range_succ, List.foldl_append]; simp only [List.foldl_cons, List.foldl_nil, List.length_set]; exact ih
        have htj : t.getD j 0 < p.1 := by
          rw [List.getD_eq_getElem?_getD, List.getElem?_eq_getElem hjt]
          exact O.lt _ (List.getElem_mem hjt)
        refine ⟨_, rfl, _, rfl, b, r.map V.int, _, .int (r.getD j 0), rfl, rfl, hbq.ext s6, ?_, _, rfl, _, rfl, _, rfl, a, (oI t).map V.int, _, .int ((t.getD j 0 : Nat) : Int), rfl, rfl, qa, ?_, M, _, ((t.getD j 0 : Nat) : Int), t.getD j 0, rfl, rfl, hM6, ?_, _, rfl, kM.trans Kb.upd, ?_⟩
        · rw [Int.zero_add]
          refine atI_nat ?_
          rw [List.getElem?_map, List.getD_eq_getElem?_getD, List.getElem?_eq_getElem hjr]
          rfl
        · rw [Int.zero_add]
          refine atI_nat ?_
          unfold oI
          rw [List.getElem?_map, List.getElem?_map, List.getD_eq_getElem?_getD, List.getElem?_eq_getElem hjt]
          rfl
        · rw [List.length_map, hel]
          exact ixN_at htj
        · rw [upd_same, List.range_succ, List.foldl_append, ← List.map_set]
          rfl
      · rintro σ H6 ⟨o6, rfl, kM, hM6⟩
        have s6 : Same H' H6 := fun c o e => kM c o (by rw [upd_ne (ne_of_none (s4 _ _ e) hM)]; exact s4 _ _ e) (ne_of_none (s4 _ _ e) hM)
        have hMl : (placeL p.1 t r).length = p.1 := by
          unfold placeL
          have hel : ∀ n, ((List.range n).foldl (fun e k => e.set (t.getD k 0) (r.getD k 0)) (List.replicate p.1 (0 : Int))).length = p.1 := by
            intro n
            induction n with
            | zero => simp
            | succ n ih => rw [List.range_succ, List.foldl_append]; simp only [List.foldl_cons, List.foldl_nil, List.length_set]; exact ih
          exact hel _
        refine ⟨_, rfl, .inl ⟨rfl, _, SqL.of (s6 _ _ hF')⟩, _, rfl, _, rfl, .inl ⟨M, (placeL p.1 t r).map V.int, rfl, SqL.of hM6, fun q hq7 => ⟨_, placeL p.1 t r, p.2, rfl, ⟨q, rfl, .inr (SqT.of upd_same)⟩, by omega, by rw [hMl, sizeLine_eq]; omega, fun H8 y s8 hy => ?_⟩⟩⟩
        have s' : Same H' H8 := (s6.trans (same_upd hq7)).trans s8
        refine ⟨F, acc, y, rfl, rfl, s' _ _ hF', ?_, some (.ref b), some (.ref M), o6, acc ++ [y], rfl, (kb.trans (same_kb s')).trans Kb.upd, upd_same, ?_⟩
        · rw [pa.length, List.length_map, List.length_take, sizeLine_eq]
          omega
        · rw [take_snoc hr2, List.map_append]
          exact pr_append (pr_ext (pr_same pa s') fun x y _ g => stbT _ _ _ _ _ g Kb.upd (s' _ _ hF')) (.cons (stbT _ _ _ _ _ hy Kb.upd (s' _ _ hF')) .nil)
    · rintro σ H' ⟨o4, o5, o6, acc, rfl, kb, hF', pa⟩
      rw [pr.length, List.take_length] at pa
      have e0 : ((tab p.1 p.2).map fun r => canon p.2 (placeL p.1 t r)) = (tab p.1 p.2).map fun r => canon p.2 (placeP t r) := List.map_congr_left fun r hr3 => by rw [place_eq p hp t ht r hr3]
      rw [e0] at pa
      obtain ⟨ks, e1, e2, e3⟩ := pr_addr pa
      have sHH' : Same H H' := fun c o e => kb c o (sHH2 _ _ e) (ne_of_none e hF)
      have hks : ks.length ≤ 8 := by
        have := congrArg List.length e3
        rw [List.length_map, List.length_map] at this
        omega
      subst e1
      refine ⟨_, rfl, F, ks, rfl, SqL.of hF', e2, by omega, fun S L1 hS h1 h2 => ?_⟩
      have hB : ∀ x ∈ (tab p.1 p.2).map (fun r => canon p.2 (placeP t r)), x.length = p.1 ∧ TS.Bd (p.2 : Int) x := by
        intro x hx
        obtain ⟨r, hr3, rfl⟩ := List.mem_map.mp hx
        refine ⟨?_, canon_bd (by omega) _⟩
        rw [canon_length]
        unfold placeP
        rw [List.length_map, List.length_range, trl r hr3]
      refine ⟨S, L1, p.1, (p.2 : Int), rfl, upd_same, fun q hq1 => (e2 q (h1 q hq1)).ext (same_upd hS), by omega, fun q hq1 => hB _ ?_, fun L2 q perm nd l64 pw hq1 => ?_⟩
      · rw [← e3]
        exact List.mem_map.mpr ⟨q, h1 q hq1, rfl⟩
      · have sS : Same H' (upd H' S (SetTO P w S L1)) := same_upd hS
        have sQ := sS.trans (same_upd (o := .lst (L2.map fun q => V.ref q.1)) hq1)
        refine k _ q _ (sHH'.trans sQ) upd_same ?_
        have em : L2.map (·.2) = moved p.1 p.2 t := by
          refine sd_of (B := (p.2 : Int)) (d := p.1) (List.pairwise_map.mpr pw) nd hB fun x => ?_
          constructor
          · intro hx
            obtain ⟨q1, m1, rfl⟩ := List.mem_map.mp hx
            rw [← e3]
            exact List.mem_map.mpr ⟨q1, h1 _ (perm.mem_iff.mp m1), rfl⟩
          · intro hx
            rw [← e3] at hx
            obtain ⟨q1, m1, rfl⟩ := List.mem_map.mp hx
            obtain ⟨q2, m2, e4⟩ := List.mem_map.mp (h2 q1 m1)
            rw [← e4]
            exact List.mem_map.mpr ⟨q2, perm.mem_iff.mpr m2, rfl⟩
        rw [← em]
        exact pr_back L2 fun q1 m1 => (e2 q1 (h1 _ (perm.mem_iff.mp m1))).ext sQ
end
end RM
namespace RM
open PySem PySem.Spec PyProof.Rows L2
/-- the spring's dict -/
def dk (c : Addr) (sp lf ct : Int) : HO := .dK [(.inr "cells", .ref c), (.inr "spot", .int sp), (.inr "left", .int lf), (.inr "count", .int ct)]
def Spr (H : Hp) (d c : Addr) : Prop := ∃ (cs : List Int) (sp lf ct : Int), H d = some (dk c sp lf ct) ∧ H c = some (.lst (cs.map V.int)) ∧ cs.length ≤ sizeLine
section
variable {H : Hp} {d c : Addr} {sp lf ct x : Int}
theorem dk_cells (h : H d = some (dk c sp lf ct)) : DGet H d (.str "cells") (some (.ref c)) := DGet.k (k := .inr "cells") h
theorem dk_spot (h : H d = some (dk c sp lf ct)) : DGet H d (.str "spot") (some (.int sp)) := DGet.k (k := .inr "spot") h
theorem dk_left (h : H d = some (dk c sp lf ct)) : DGet H d (.str "left") (some (.int lf)) := DGet.k (k := .inr "left") h
theorem dk_count (h : H d = some (dk c sp lf ct)) : DGet H d (.str "count") (some (.int ct)) := DGet.k (k := .inr "count") h
theorem four_le : (4 : Nat) < sizeLine := by decide
theorem dk_setSpot (h : H d = some (dk c sp lf ct)) : DPut H d (.str "spot") (.int x) (upd H d (dk c x lf ct)) := DPut.k (k := .inr "spot") (v := .int x) h four_le
theorem dk_setLeft (h : H d = some (dk c sp lf ct)) : DPut H d (.str "left") (.int x) (upd H d (dk c sp x ct)) := DPut.k (k := .inr "left") (v := .int x) h four_le
theorem dk_setCount (h : H d = some (dk c sp lf ct)) : DPut H d (.str "count") (.int x) (upd H d (dk c sp lf x)) := DPut.k (k := .inr "count") (v := .int x) h four_le
theorem dk_ne_lst {xs : List V} (h : H d = some (dk c sp lf ct)) (h2 : H c = some (.lst xs)) : c ≠ d := by
  rintro rfl
  rw [h] at h2
  cases h2
end
theorem tif_join {t : TT} {ta tb : TE} {σ : L2.St} {H : Hp} {Q : VK} (J : V → Hp → Prop) (hJ : ∀ v H', J v H' → Q v H') (h : ∀ Q' : VK, (∀ v H', J v H' → Q' v H') → tIf t ta tb σ H Q') : tIf t ta tb σ H Q := h Q hJ
theorem and_join {t u : TT} {σ : L2.St} {H : Hp} {Q : Bool → Hp → Prop} (b : Bool) (hQ : Q b H) (h : ∀ Q' : Bool → Hp → Prop, Q' b H → tAnd t u σ H Q') : tAnd t u σ H Q := h Q hQ
section
variable {P : Program} {w : World} {K : PySem.W.Frag} {mg : Str → Option Value} {base : Heap}
/-! _law_dip: 43 -/
def spDip : Sp := fun vs H Q _ => ∃ (d c : Addr) (lim : Int), vs = [.ref d, .int lim] ∧ Spr H d c ∧ 0 < lim ∧ lim < 1000000 ∧ ∀ r H', 0 ≤ r → r < lim → Kb d H H' → Spr H' d c → Q (.int r) H'
def nDip : List Str := ["_law_spring_here", "_law_limit", "_law_figure", "_law_spot", "_law_cell", "_law_mixed"]
theorem sc_dip : FnScope nDip ["_law_spring_here", "_law_limit"] (defScope (top 43)) := ⟨rfl, rfl, rfl, by decide +kernel, rfl, by decide +kernel, by decide +kernel⟩
theorem c_dip (T : Tx K mg) (D : DefAt K mg "_law_dip" (top 43)) : Cal P w K mg base "_law_dip" 1 ["_law_spring_here", "_law_limit"] spDip := by
  refine cal_mk D sc_dip (fun _ _ _ _ _ _ us hl => match us, hl with | [_, _], _ => rfl) (fun vs H Q E h => ?_) (fun cdv f A outer s H vs Q E hr h => ?_)
  · obtain ⟨d, c, lim, rfl, _⟩ := h
    rfl
  · obtain ⟨d, c, lim, rfl, ⟨cs, sp, lf, ct, hd, hc, hz⟩, h0, h1, k⟩ := h
    have hu := hu_of hr
    refine ⟨_, pss_cons (ps_dput hu (pv 0) pe_str (pe_op op_add (pe_dget hu (pv 0) pe_str (fun _ _ => rfl)) pe_int) rfl)
      (pss_cons (ps_if (pt_cmpR op_gt (pe_dget hu (pv 0) pe_str (fun _ _ => rfl)) pe_int (nomark _))
        (pss_cons (ps_set (i := 2) sc_dip.nd rfl (Or.inl rfl) (pe_op op_mod (pe_callTy call_int1 (by rfl) T.int rfl (pa_cons (pe_dget hu (pv 0) pe_str (fun _ _ => rfl)) pa_nil)) (pv 1)))
        (pss_cons (ps_dput hu (pv 0) pe_str (pe_op op_fdiv (pe_dget hu (pv 0) pe_str (fun _ _ => rfl)) (pv 1)) rfl)
        (pss_one (ps_ret (pv 2))))) pss_nil)
      (pss_cons (ps_set (i := 3) sc_dip.nd rfl (Or.inl rfl) (pe_dget hu (pv 0) pe_str (fun _ _ => rfl)))
      (pss_cons (ps_dput hu (pv 0) pe_str (pe_op op_add (pv 3) pe_int) rfl)
      (pss_cons (ps_set (i := 4) sc_dip.nd rfl (Or.inl rfl) (pe_ifExp (pt_cmpR (op_neD hr.units) (pe_dget hu (pv 0) pe_str (fun _ _ => rfl)) (pe_lst pa_nil) (nomark _))
          (pe_ix ix_list (pe_dget hu (pv 0) pe_str (fun _ _ => rfl)) (pe_op op_mod (pe_callTy call_int1 (by rfl) T.int rfl (pa_cons (pv 3) pa_nil)) (pe_callB call_len (by rfl) T.len rfl (pa_cons (pe_dget hu (pv 0) pe_str (fun _ _ => rfl)) pa_nil))) (fun _ _ => rfl))
          pe_int))
      (pss_cons (ps_if (PW.pt (pw_and (pt_cmpR op_ge (pv 4) (pe_op op_pow pe_int pe_int) (nomark _)) (pw_and1 (pt_cmpR op_lt (pv 3) (pe_callB call_len (by rfl) T.len rfl (pa_cons (pe_dget hu (pv 0) pe_str (fun _ _ => rfl)) pa_nil)) (nomark _)))))
        (pss_cons (ps_dput hu (pv 0) pe_str (pe_op op_fdiv (pv 4) (pv 1)) rfl)
        (pss_one (ps_ret (pe_op op_mod (pe_callTy call_int1 (by rfl) T.int rfl (pa_cons (pv 4) pa_nil)) (pv 1))))) pss_nil)
      (pss_cons (ps_set (i := 5) sc_dip.nd rfl (Or.inl rfl) (pe_op op_mod (pe_callTy call_int1 (by rfl) T.int rfl (pa_cons (pe_op op_add (pe_op op_add (pe_op op_mod (pe_callTy call_int1 (by rfl) T.int rfl (pa_cons (pv 4) pa_nil)) pe_int) (pe_op op_mul pe_int (pe_dget hu (pv 0) pe_str (fun _ _ => rfl)))) pe_int) pa_nil)) pe_int))
      (pss_cons (ps_set (i := 5) sc_dip.nd rfl (Or.inl rfl) (pe_op op_mod (pe_callTy call_int1 (by rfl) T.int rfl (pa_cons (pe_op op_add (pe_op op_add (pe_op op_mul (pv 5) (pv 5)) (pe_op op_mul pe_int (pe_dget hu (pv 0) pe_str (fun _ _ => rfl)))) pe_int) pa_nil)) pe_int))
      (pss_one (ps_ret (pe_op op_mod (pe_callTy call_int1 (by rfl) T.int rfl (pa_cons (pe_op op_fdiv (pe_op op_mod (pe_callTy call_int1 (by rfl) T.int rfl (pa_cons (pe_op op_add (pe_op op_mul (pv 5) (pv 5)) (pe_op op_mul pe_int (pv 5))) pa_nil)) pe_int) pe_int) pa_nil)) (pv 1)))))))))))  , ?_⟩
    have hcd := dk_ne_lst hd hc
    refine ⟨_, rfl, d, _, rfl, dk_count hd, ct, 1, rfl, rfl, _, rfl, d, _, rfl, dk_setCount hd, ?_⟩
    have hd1 : (upd H d (dk c sp lf (ct + 1))) d = some (dk c sp lf (ct + 1)) := upd_same
    have hc1 : (upd H d (dk c sp lf (ct + 1))) c = some (.lst (cs.map V.int)) := by rw [upd_ne hcd]; exact hc
    have kb1 : Kb d H (upd H d (dk c sp lf (ct + 1))) := Kb.upd
    generalize upd H d (dk c sp lf (ct + 1)) = H1 at hd1 hc1 kb1
    refine ⟨_, rfl, d, _, rfl, dk_left hd1, lf, 0, rfl, rfl, _, rfl, ?_⟩
    by_cases hl : 0 < lf
    · refine ite_t (by simpa using hl) ⟨_, rfl, d, _, rfl, dk_left hd1, .inl ⟨lf, rfl, _, rfl, lf, lim, rfl, rfl, h0, _, rfl, d, _, rfl, dk_left hd1, _, rfl, lf, lim, rfl, rfl, ⟨h0, by omega⟩, _, rfl, d, _, rfl, dk_setLeft hd1, _, rfl, ?_⟩⟩
      exact k _ _ (Int.emod_nonneg _ (by omega)) (Int.emod_lt_of_pos _ h0) (kb1.trans Kb.upd) ⟨cs, _, _, _, upd_same, by rw [upd_ne hcd]; exact hc1, hz⟩
    refine ite_f (by simpa using hl) ⟨_, rfl, d, _, rfl, dk_spot hd1, _, rfl, sp, 1, rfl, rfl, _, rfl, d, _, rfl, dk_setSpot hd1, ?_⟩
    have hd2 : (upd H1 d (dk c (sp + 1) lf (ct + 1))) d = some (dk c (sp + 1) lf (ct + 1)) := upd_same
    have hc2 : (upd H1 d (dk c (sp + 1) lf (ct + 1))) c = some (.lst (cs.map V.int)) := by rw [upd_ne hcd]; exact hc1
    have kb2 : Kb d H (upd H1 d (dk c (sp + 1) lf (ct + 1))) := kb1.trans Kb.upd
    generalize upd H1 d (dk c (sp + 1) lf (ct + 1)) = H2 at hd2 hc2 kb2
    dsimp only [tSeq, tAsg]
    refine tif_join (fun v H3 => ∃ x : Int, v = .int x ∧ Same H2 H3) ?_ ?_
    · rintro v H3 ⟨x, rfl, s3⟩
      have hd3 := s3 _ _ hd2
      have hc3 := s3 _ _ hc2
      have kb3 := kb2.trans (same_kb s3)
      dsimp only [gName, tSeq]
      have pow18 : (10 : Int) ^ (18 : Int).toNat = 1000000000000000000 := by decide
      have hlen : (cs.map V.int).length = cs.length := List.length_map ..
      refine and_join (decide ((1000000000000000000 : Int) ≤ x) && decide (sp < (cs.length : Int))) ?_ ?_
      · cases decide ((1000000000000000000 : Int) ≤ x) && decide (sp < (cs.length : Int)) with
        | true =>
          refine ite_t rfl ⟨_, rfl, _, rfl, x, lim, rfl, rfl, ⟨h0, by omega⟩, _, rfl, d, _, rfl, dk_setLeft hd3, _, rfl, .inl ⟨x, rfl, _, rfl, x, lim, rfl, rfl, h0, ?_⟩⟩
          exact k _ _ (Int.emod_nonneg _ (by omega)) (Int.emod_lt_of_pos _ h0) (kb3.trans Kb.upd) ⟨cs, _, _, _, upd_same, by rw [upd_ne hcd]; exact hc3, hz⟩
        | false =>
          refine ite_f rfl ⟨_, rfl, .inl ⟨x, rfl, x, 1000003521, rfl, rfl, (by decide : (0 : Int) < 1000003521), _, rfl, d, _, rfl, dk_count hd3, 67593, ct + 1, rfl, rfl, .inl ⟨by decide, by decide⟩, _, _, rfl, rfl, _, _, rfl, rfl, .inl ⟨_, rfl, _, 2147483371, rfl, rfl, (by decide : (0 : Int) < 2147483371), ?_⟩⟩⟩
          dsimp only
          have g1 := Int.emod_nonneg (x % 1000003521 + 67593 * (ct + 1) + 3041) (show (2147483371 : Int) ≠ 0 by decide)
          have g2 := Int.emod_lt_of_pos (x % 1000003521 + 67593 * (ct + 1) + 3041) (show (0 : Int) < 2147483371 by decide)
          generalize (x % 1000003521 + 67593 * (ct + 1) + 3041) % 2147483371 = m1 at g1 g2
          refine ⟨_, rfl, _, rfl, m1, m1, rfl, rfl, .inl ⟨by omega, by omega⟩, _, rfl, d, _, rfl, dk_count hd3, 8396215, ct + 1, rfl, rfl, .inl ⟨by decide, by decide⟩, _, _, rfl, rfl, _, _, rfl, rfl, .inl ⟨_, rfl, _, 2147483293, rfl, rfl, (by decide : (0 : Int) < 2147483293), ?_⟩⟩
          dsimp only
          have g3 := Int.emod_nonneg (m1 * m1 + 8396215 * (ct + 1) + 2257) (show (2147483293 : Int) ≠ 0 by decide)
          have g4 := Int.emod_lt_of_pos (m1 * m1 + 8396215 * (ct + 1) + 2257) (show (0 : Int) < 2147483293 by decide)
          generalize (m1 * m1 + 8396215 * (ct + 1) + 2257) % 2147483293 = m2 at g3 g4
          refine ⟨_, rfl, _, rfl, m2, m2, rfl, rfl, .inl ⟨by omega, by omega⟩, _, rfl, 1799, m2, rfl, rfl, .inl ⟨by decide, by decide⟩, _, _, rfl, rfl, .inl ⟨_, rfl, _, 2147483237, rfl, rfl, (by decide : (0 : Int) < 2147483237), _, 32, rfl, rfl, ⟨by decide, by decide⟩, .inl ⟨_, rfl, _, rfl, _, lim, rfl, rfl, h0, ?_⟩⟩⟩
          exact k _ _ (Int.emod_nonneg _ (by omega)) (Int.emod_lt_of_pos _ h0) kb3 ⟨cs, _, _, _, hd3, hc3, hz⟩
      · intro Q' q'
        refine ⟨_, rfl, 10, 18, rfl, rfl, ⟨by decide, by decide, by decide⟩, x, _, rfl, rfl, _, rfl, ?_⟩
        rw [pow18]
        by_cases c1 : (1000000000000000000 : Int) ≤ x
        · refine ite_t (decide_eq_true c1) ⟨_, rfl, _, rfl, d, _, rfl, dk_cells hd3, _, _, rfl, .inl ⟨_, SqL.of hc3, rfl⟩, _, _, rfl, rfl, _, rfl, ?_⟩
          rw [hlen]
          rw [decide_eq_true c1, Bool.true_and] at q'
          exact q'
        · refine ite_f (decide_eq_false c1) ?_
          rw [decide_eq_false c1, Bool.false_and] at q'
          exact q'
    · intro Q' q'
      refine ⟨_, rfl, d, _, rfl, dk_cells hd2, by show 0 ≤ sizeLine; decide, fun M hM => ?_⟩
      have s3 : Same H2 (upd H2 M (.lst [])) := same_upd hM
      refine ⟨.list (cs.map PyData.int), .list [], .lst (SqL.of (s3 _ _ hc2)) (dp_ints cs), .lst (SqL.of upd_same) .nil, shp_ints cs, rfl, _, rfl, ?_⟩
      rw [show PyData.eqv (.list (cs.map PyData.int)) (.list []) = decide (cs = []) from eqv_ints cs []]
      by_cases hcs : cs = []
      · exact ite_f (by rw [decide_eq_true hcs]; rfl) (q' _ _ ⟨_, rfl, s3⟩)
      · have hpos : 0 < cs.length := List.length_pos_iff.mpr hcs
        have hlen : (cs.map V.int).length = cs.length := List.length_map ..
        have g1 := Int.emod_nonneg sp (show (cs.length : Int) ≠ 0 by omega)
        have g2 := Int.emod_lt_of_pos sp (show (0 : Int) < (cs.length : Int) by omega)
        obtain ⟨j, ej, hj⟩ : ∃ j : Nat, sp % (cs.length : Int) = (j : Int) ∧ j < cs.length := ⟨(sp % (cs.length : Int)).toNat, by omega, by omega⟩
        refine ite_t (by rw [decide_eq_false hcs]; rfl) ⟨_, rfl, d, _, rfl, dk_cells (s3 _ _ hd2), _, rfl, .inl ⟨sp, rfl, _, rfl, d, _, rfl, dk_cells (s3 _ _ hd2), _, _, rfl, .inl ⟨_, SqL.of (s3 _ _ hc2), rfl⟩, sp, _, rfl, rfl, ?_, c, cs.map V.int, _, .int (cs[j]'hj), rfl, rfl, SqL.of (s3 _ _ hc2), ?_, q' _ _ ⟨_, rfl, s3⟩⟩⟩
        · rw [hlen]
          show (0 : Int) < _
          omega
        · rw [hlen, ej]
          refine atI_nat ?_
          rw [List.getElem?_map, List.getElem?_eq_getElem hj]
          rfl
end
end RM
namespace RM
open PySem PySem.Spec PyProof.Rows L2
section
variable {H H' : Hp} {d c D : Addr}
theorem spr_same (h : Spr H d c) (s : Same H H') : Spr H' d c := by
  obtain ⟨cs, sp, lf, ct, h1, h2, h3⟩ := h
  exact ⟨cs, sp, lf, ct, s _ _ h1, s _ _ h2, h3⟩
theorem spr_kb (h : Spr H d c) (k : Kb D H H') (n1 : d ≠ D) (n2 : c ≠ D) : Spr H' d c := by
  obtain ⟨cs, sp, lf, ct, h1, h2, h3⟩ := h
  exact ⟨cs, sp, lf, ct, k _ _ h1 n1, k _ _ h2 n2, h3⟩
theorem spr_ne (h : Spr H d c) (n : H D = none) : d ≠ D ∧ c ≠ D := by
  obtain ⟨cs, sp, lf, ct, h1, h2, h3⟩ := h
  exact ⟨ne_of_none h1 n, ne_of_none h2 n⟩
theorem spr_dk (h : Spr H d c) : ∃ u, H d = some u ∧ (∀ xs, u ≠ .tup xs) ∧ (∀ o x, u ≠ .frz o x) ∧ (∀ xs, u ≠ .lst xs) ∧ ∀ C dx fs, u ≠ .ins C dx fs := by
  obtain ⟨cs, sp, lf, ct, h1, h2, h3⟩ := h
  exact ⟨_, h1, fun _ z => HO.noConfusion z, fun _ _ z => HO.noConfusion z, fun _ z => HO.noConfusion z, fun _ _ _ z => HO.noConfusion z⟩
/-- tuples stand through draws -/
theorem tupI_spr {K : PySem.W.Frag} {x : V} {ns : List Int} (h : TupI K H x ns) (s : Spr H d c) (e : Kb d H H') : TupI K H' x ns := by
  obtain ⟨u, h1, h2, h3, _⟩ := spr_dk s
  exact tupI_keep h e h1 h2 h3
theorem pr_spr {K : PySem.W.Frag} {vs : List V} {Ls : List (List Int)} (h : Paired (gT K H) vs Ls) (s : Spr H d c) (e : Kb d H H') : Paired (gT K H') vs Ls := pr_ext h fun _ _ _ g => tupI_spr g s e
theorem lst_spr {l : Addr} {xs : List V} (h : H l = some (.lst xs)) (s : Spr H d c) (e : Kb d H H') : H' l = some (.lst xs) := by
  obtain ⟨u, h1, _, _, h4, _⟩ := spr_dk s
  exact e _ _ h (ne_of h h1 fun z => h4 _ z.symm)
theorem sql_spr {K : PySem.W.Frag} {l : Addr} {xs : List V} (h : SqL K H l xs) (s : Spr H d c) (e : Kb d H H') : SqL K H' l xs := by
  obtain ⟨u, h1, _, h3, h4, _⟩ := spr_dk s
  rcases h with (h | ⟨o, h⟩) | h
  · exact .inl (.inl (e _ _ h (ne_of h h1 fun z => h4 _ z.symm)))
  · exact .inl (.inr ⟨o, e _ _ h (ne_of h h1 fun z => h3 _ _ z.symm)⟩)
  · exact .inr h
theorem ord_spr {v : V} {t : List Nat} (h : OrdT H v t) (s : Spr H d c) (e : Kb d H H') : OrdT H' v t := by
  obtain ⟨u, h1, _, h3, _⟩ := spr_dk s
  exact ordT_kb h e h1 h3
end
theorem erase_map {α β : Type} (f : α → β) : ∀ (l : List α) (i : Nat), (l.map f).eraseIdx i = (l.eraseIdx i).map f
  | [], _ => rfl
  | _ :: _, 0 => rfl
  | x :: l, i + 1 => by
    show f x :: (l.map f).eraseIdx i = f x :: (l.eraseIdx i).map f
    rw [erase_map f l i]
/-- what an order drawn so far may become -/
def Road (wd : Nat) (f l : List Nat) : Prop := ∀ q ∈ permsN (wd - f.length) l, f ++ q ∈ permsOf wd
theorem road_start (wd : Nat) : Road wd [] (List.range wd) := fun q h => h
theorem road_step {wd : Nat} {f l : List Nat} (h : Road wd f l) (hl : f.length + l.length = wd) {i : Nat} (hi : i < l.length) : Road wd (f ++ [l[i]]) (l.eraseIdx i) := by
  intro q hq
  rw [List.length_append] at hq
  have e : wd - f.length = (wd - (f.length + 1)) + 1 := by omega
  have := h (l[i] :: q) (by
    rw [e]
    refine List.mem_flatMap.mpr ⟨i, List.mem_range.mpr hi, List.mem_map.mpr ⟨q, hq, ?_⟩⟩
    rw [List.getD_eq_getElem?_getD, List.getElem?_eq_getElem hi]
    rfl)
  rw [List.append_assoc]
  exact this
theorem road_end {wd : Nat} {f l : List Nat} (h : Road wd f l) (hl : f.length = wd) : f ∈ permsOf wd := by
  have := h [] (by rw [hl, Nat.sub_self]; exact List.mem_singleton.mpr rfl)
  rwa [List.append_nil] at this
section
variable {P : Program} {w : World} {K : PySem.W.Frag} {mg : Str → Option Value} {base : Heap}
/-! _law_spring: 42 -/
def spSpring : Sp := fun vs H Q _ => ∃ (a : Addr) (cs : List Int), vs = [.ref a] ∧ SqL K H a (cs.map V.int) ∧ cs.length ≤ sizeLine ∧ ∀ d c H', Same H H' → Spr H' d c → Q (.ref d) H'
theorem sc_spring : FnScope ["_law_script"] ["_law_script"] (defScope (top 42)) := ⟨rfl, rfl, rfl, by decide +kernel, rfl, by decide +kernel, by decide +kernel⟩
theorem cut_ints (ns : List Int) (lo hi : Option Int) : ∃ ms : List Int, cutV (ns.map V.int) lo hi = ms.map V.int ∧ ms.length ≤ ns.length := by
  unfold cutV
  refine ⟨(ns.drop (HT.sIx (ns.map V.int).length 0 lo)).take (HT.sIx (ns.map V.int).length (ns.map V.int).length hi - HT.sIx (ns.map V.int).length 0 lo), ?_, ?_⟩
  · rw [← List.map_drop, ← List.map_take]
  · rw [List.length_take, List.length_drop]; omega
theorem c_spring (T : Tx K mg) (D : DefAt K mg "_law_spring" (top 42)) : Cal P w K mg base "_law_spring" 1 ["_law_script"] (spSpring (K := K)) := by
  refine cal_mk D sc_spring (fun _ _ _ _ _ _ us hl => match us, hl with | [_], _ => rfl) (fun vs H Q E h => ?_) (fun cdv f A outer s H vs Q E hr h => ?_)
  · obtain ⟨a, cs, rfl, _⟩ := h
    rfl
  · obtain ⟨a, cs, rfl, hq, hz, k⟩ := h
    refine ⟨_, pss_one (ps_ret (pe_disp (pps_cons pe_str (pe_callTy call_list_of (by rfl) T.list rfl (pa_cons (pe_slice sl_list (pv 0) po_none (po_some pe_int)) pa_nil)) (pps_cons pe_str pe_int (pps_cons pe_str pe_int (pps_cons pe_str pe_int pps_nil)))) rfl rfl (by decide) (by decide))), ?_⟩
    intro d hd
    have s1 : Same H (upd H d (.dK [])) := same_upd hd
    obtain ⟨ms, em, hm⟩ := cut_ints cs none (some 60)
    refine ⟨_, rfl, 60, rfl, a, cs.map V.int, rfl, hq.ext s1, fun L1 hL1 => ⟨L1, _, rfl, .inl (SqL.of upd_same), fun L2 hL2 => ?_⟩⟩
    have s2 := s1.trans (same_upd (o := .lst (cutV (cs.map V.int) none (some 60))) hL1)
    have s3 := (same_upd (o := .lst (cutV (cs.map V.int) none (some 60))) hL1).trans (same_upd (o := .lst (cutV (cs.map V.int) none (some 60))) hL2)
    refine ⟨s3 _ _ upd_same, [(.inr "cells", .ref L2), (.inr "spot", .int 0), (.inr "left", .int 0), (.inr "count", .int 0)], rfl, (by decide : 4 ≤ 15), ?_⟩
    refine k d L2 _ ?_ ⟨ms, 0, 0, 0, upd_same, ?_, by omega⟩
    · exact same_kbN (s2.trans (same_upd hL2)) hd Kb.upd
    · have n : L2 ≠ d := by
        rintro rfl
        have := s3 L2 _ upd_same
        have h2 := (same_upd (o := .lst (cutV (cs.map V.int) none (some 60))) hL1) L2 _ upd_same
        rw [hL2] at h2
        cases h2
      rw [upd_ne n, upd_same, em]
/-! _law_pick: 44 -/
def spPick : Sp := fun vs H Q _ => ∃ (d c a : Addr) (ns : List Int), vs = [.ref d, .ref a] ∧ Spr H d c ∧ SqL K H a (ns.map V.int) ∧ 0 < ns.length ∧ ns.length < 1000000 ∧ ∀ x H', x ∈ ns → Kb d H H' → Spr H' d c → Q (.int x) H'
theorem sc_pick : FnScope ["_law_spring_here", "_law_some"] ["_law_spring_here", "_law_some"] (defScope (top 44)) := ⟨rfl, rfl, rfl, by decide +kernel, rfl, by decide +kernel, by decide +kernel⟩
theorem c_pick (T : Tx K mg) (D : DefAt K mg "_law_pick" (top 44)) (C1 : Cal P w K mg base "_law_dip" 1 ["_law_spring_here", "_law_limit"] spDip) : Cal P w K mg base "_law_pick" 2 ["_law_spring_here", "_law_some"] (spPick (K := K)) := by
  refine cal_mk D sc_pick (fun _ _ _ _ _ _ us hl => match us, hl with | [_, _], _ => rfl) (fun vs H Q E h => ?_) (fun cdv f A outer s H vs Q E hr h => ?_)
  · obtain ⟨d, c, a, ns, rfl, _⟩ := h
    rfl
  · obtain ⟨d, c, a, ns, rfl, hs, hq, h0, h1, k⟩ := h
    refine ⟨_, pss_one (ps_ret (pe_ix ix_list (pv 1) (pe_cal C1 hr (pa_cons (pv 0) (pa_cons (pe_callB call_len (by rfl) T.len rfl (pa_cons (pv 1) pa_nil)) pa_nil))) (fun _ _ => rfl))), ?_⟩
    have hl : (ns.map V.int).length = ns.length := List.length_map ..
    refine ⟨_, rfl, _, rfl, _, rfl, _, _, rfl, .inl ⟨_, hq, rfl⟩, d, c, _, rfl, hs, by omega, by omega, fun r H' hr0 hr1 kb s' => ?_⟩
    obtain ⟨j, rfl⟩ := Int.eq_ofNat_of_zero_le hr0
    have hj : j < ns.length := by omega
    refine ⟨a, ns.map V.int, _, .int ns[j], rfl, rfl, sql_spr hq hs kb, atI_nat ?_, k _ _ (List.getElem_mem hj) kb s'⟩
    rw [List.getElem?_map, List.getElem?_eq_getElem hj]
    rfl
/-! _law_turn_of: 60 -/
def spTurnOf : Sp := fun vs H Q _ => ∃ (d c : Addr) (n : Nat), vs = [.ref d, .int (n : Int)] ∧ Spr H d c ∧ n ≤ 5 ∧ ∀ v t H', t ∈ permsOf n → OrdT H' v t → Kb d H H' → Spr H' d c → Q v H'
def nTurn : List Str := ["_law_spring_here", "_law_wide", "_law_left", "_law_found", "_law_k"]
theorem sc_turnof : FnScope nTurn ["_law_spring_here", "_law_wide"] (defScope (top 60)) := ⟨rfl, rfl, rfl, by decide +kernel, rfl, by decide +kernel, by decide +kernel⟩
theorem c_turnof (T : Tx K mg) (D : DefAt K mg "_law_turn_of" (top 60)) (C1 : Cal P w K mg base "_law_dip" 1 ["_law_spring_here", "_law_limit"] spDip) : Cal P w K mg base "_law_turn_of" 2 ["_law_spring_here", "_law_wide"] spTurnOf := by
  refine cal_mk D sc_turnof (fun _ _ _ _ _ _ us hl => match us, hl with | [_, _], _ => rfl) (fun vs H Q E h => ?_) (fun cdv f A outer s H vs Q E hr h => ?_)
  · obtain ⟨d, c, n, rfl, _⟩ := h
    rfl
  · obtain ⟨d, c, n, rfl, hs, hn, k⟩ := h
    refine ⟨_, pss_cons (ps_par (i := 2) (j := 3) rfl sc_turnof.nd rfl rfl (by decide) rfl rfl (pa_cons (pe_listRg rfl (by rfl) T.list (prg_1 (by rfl) T.range (pv 1))) (pa_cons (pe_lst pa_nil) pa_nil)) rfl)
      (pss_cons (ps_for PassesOwn.never rfl (pi_range1 (by rfl) T.range (pa_cons (pv 1) pa_nil)) (pg_name (i := 4) sc_turnof.nd rfl (Or.inl rfl))
        (pss_one (ps_expr (pe_bm PySem.F.plainAttrs_list PySem.F.slot_list_append PySem.F.type_list_append mt_append (pv 3) (pa_cons (pe_bm PySem.F.plainAttrs_list PySem.F.slot_list_pop PySem.F.type_list_pop mt_popAt (pv 2) (pa_cons (pe_cal C1 hr (pa_cons (pv 0) (pa_cons (pe_callB call_len (by rfl) T.len rfl (pa_cons (pv 2) pa_nil)) pa_nil))) pa_nil)) pa_nil)))))
      (pss_one (ps_ret (pe_tupleOfF (by rfl) T.tuple (pv 3))))), ?_⟩
    refine ⟨_, rfl, _, rfl, RgOk.of_le (by decide) (by omega) (by decide) (by omega), fun L hL => ⟨by show 0 ≤ sizeLine; decide, fun F hF => ⟨_, _, rfl, ?_⟩⟩⟩
    obtain ⟨nd1, nc1⟩ := spr_ne hs hL
    have sL : Same H (upd H L (.lst (rgV 0 (n : Int)))) := same_upd hL
    have hs1 := spr_same hs sL
    obtain ⟨nd2, nc2⟩ := spr_ne hs1 hF
    have hs2 := spr_same hs1 (same_upd (o := .lst []) hF)
    have nLF : L ≠ F := by
      rintro rfl
      rw [upd_same] at hF
      cases hF
    have hn5 : (n : Int).toNat = n := by omega
    refine ⟨_, rfl, (n : Int), rfl, by omega, by omega, ?_⟩
    rw [hn5]
    refine for_range (n := n) (fun j σ H' => ∃ (o4 : Option V) (f l : List Nat), σ = [some (.ref d), some (.int (n : Int)), some (.ref L), some (.ref F), o4] ∧ f.length = j ∧ f.length + l.length = n ∧ Road n f l ∧ H' L = some (.lst ((oI l).map V.int)) ∧ H' F = some (.lst ((oI f).map V.int)) ∧ Spr H' d c ∧
        ∀ b o, H b = some o → b ≠ d → H' b = some o) ⟨none, [], List.range n, rfl, rfl, by simp, road_start n, ?_, upd_same, hs2, ?_⟩ ?_ ?_
    · rw [upd_ne nLF, upd_same, rg_oI]
      rfl
    · intro b o e nb
      exact (sL.trans (same_upd (o := .lst []) hF)) _ _ e
    · rintro j σ H' hj ⟨o4, f, l, rfl, hfj, hfl, rd, hHL, hHF, hsp, hkb⟩
      have hll : ((oI l).map V.int).length = l.length := by rw [List.length_map, oI_len]
      refine ⟨_, rfl, .inl ⟨rfl, _, SqL.of hHF⟩, _, rfl, .inl ⟨rfl, _, SqL.of hHL⟩, _, rfl, _, rfl, _, _, rfl, .inl ⟨_, SqL.of hHL, rfl⟩, d, c, _, rfl, hsp, by omega, by omega, fun r H2 hr0 hr1 kb s' => ?_⟩
      obtain ⟨i, rfl⟩ := Int.eq_ofNat_of_zero_le hr0
      have hi : i < l.length := by omega
      have hHL2 := lst_spr hHL hsp kb
      have hHF2 := lst_spr hHF hsp kb
      refine ⟨L, _, (i : Int), i, .int (l[i] : Int), rfl, rfl, hHL2, by omega, by omega, ?_, ?_, F, (oI f).map V.int, .int (l[i] : Int), rfl, rfl, ?_, ?_, some (.int (0 + (j : Int))), f ++ [l[i]], l.eraseIdx i, rfl, ?_, ?_, road_step rd hfl hi, ?_, ?_, ?_, ?_⟩
      · rw [hll]
        unfold seqIndex?
        simp <;> omega
      · rw [List.getElem?_map]
        unfold oI
        rw [List.getElem?_map, List.getElem?_eq_getElem hi]
        rfl
      · rw [upd_ne (Ne.symm nLF)]
        exact hHF2
      · rw [List.length_map, oI_len, sizeLine_eq]; omega
      · rw [List.length_append]; simp; omega
      · rw [List.length_append, List.length_eraseIdx_of_lt hi]
        simp
        omega
      · rw [upd_ne nLF, upd_same]
        unfold oI
        rw [erase_map, erase_map]
      · rw [upd_same]
        unfold oI
        rw [List.map_append, List.map_append]
        rfl
      · exact spr_kb (spr_kb s' Kb.upd nd1 nc1) Kb.upd nd2 nc2
      · intro b o e nb
        have e1 := hkb b o e nb
        have e2 := kb _ _ e1 nb
        have n1 : b ≠ L := ne_of_none e hL
        have n2 : b ≠ F := ne_of_none (sL _ _ e) hF
        rw [upd_ne n2, upd_ne n1]
        exact e2
    · rintro σ H' ⟨o4, f, l, rfl, hfj, hfl, rd, hHL, hHF, hsp, hkb⟩
      refine ⟨_, rfl, F, _, rfl, SqL.of hHF, fun q o hq ho => ?_⟩
      have sq : Same H' (upd H' q (.frz o (.tup ((oI f).map V.int)))) := same_upd hq
      exact k _ f _ (road_end rd hfj) ⟨q, o, rfl, upd_same, ho⟩ (fun b u e nb => sq _ _ (hkb b u e nb)) (spr_same hsp sq)
end
end RM
namespace RM
open PySem PySem.Spec PyProof.Rows L2
theorem pr_take {α β : Type} {R : α → β → Prop} : ∀ {xs : List α} {ys : List β}, Paired R xs ys → ∀ n, Paired R (xs.take n) (ys.take n)
  | _, _, _, 0 => by rw [List.take_zero, List.take_zero]; exact .nil
  | _, _, .nil, n + 1 => .nil
  | _, _, .cons h t, n + 1 => .cons h (pr_take t n)
theorem pr_drop {α β : Type} {R : α → β → Prop} : ∀ {xs : List α} {ys : List β}, Paired R xs ys → ∀ n, Paired R (xs.drop n) (ys.drop n)
  | _, _, h, 0 => h
  | _, _, .nil, n + 1 => .nil
  | _, _, .cons h t, n + 1 => pr_drop t n
theorem cutV_sub {xs : List V} {lo hi : Option Int} {x : V} (h : x ∈ cutV xs lo hi) : x ∈ xs := List.mem_of_mem_drop (List.mem_of_mem_take h)
section
variable {P : Program} {w : World} {K : PySem.W.Frag} {mg : Str → Option Value} {base : Heap}
/-! _law_part: 58 -/
def spPart : Sp := fun vs H Q _ => ∃ (d c a : Addr) (xs : List V) (Ls : List (List Int)), vs = [.ref d, .ref a, .int 30] ∧ Spr H d c ∧ SqL K H a xs ∧ Paired (gT K H) xs Ls ∧ 0 < xs.length ∧ xs.length ≤ 1000 ∧
  ∀ H' q ys sel, H' q = some (.lst ys) → Paired (gT K H') ys sel → (∀ x ∈ sel, x ∈ Ls) → ys.length ≤ 30 → ys.length ≤ 2 * xs.length → Kb d H H' → Spr H' d c → Q (.ref q) H'
def nPart : List Str := ["_law_spring_here", "_law_beams", "_law_many", "_law_cut", "_law_some", "_law_beam"]
theorem sc_part : FnScope nPart ["_law_spring_here", "_law_beams", "_law_many"] (defScope (top 58)) := ⟨rfl, rfl, rfl, by decide +kernel, rfl, by decide +kernel, by decide +kernel⟩
theorem c_part (T : Tx K mg) (D : DefAt K mg "_law_part" (top 58)) (C1 : Cal P w K mg base "_law_dip" 1 ["_law_spring_here", "_law_limit"] spDip) : Cal P w K mg base "_law_part" 2 ["_law_spring_here", "_law_beams", "_law_many"] (spPart (K := K)) := by
  refine cal_mk D sc_part (fun _ _ _ _ _ _ us hl => match us, hl with | [_, _, _], _ => rfl) (fun vs H Q E h => ?_) (fun cdv f A outer s H vs Q E hr h => ?_)
  · obtain ⟨d, c, a, xs, Ls, rfl, _⟩ := h
    rfl
  · obtain ⟨d, c, a, xs, Ls, rfl, hs, hq, pr, h0, h1, k⟩ := h
    refine ⟨_, pss_cons (ps_set (i := 3) sc_part.nd rfl (Or.inl rfl) (pe_cal C1 hr (pa_cons (pv 0) (pa_cons (pe_callB call_len (by rfl) T.len rfl (pa_cons (pv 1) pa_nil)) pa_nil))))
      (pss_cons (ps_setLc (i := 4) (own := [("_law_beam", 5)]) (g := gName 5) (tt := tTest (tOp (rI0 fun i j => .bl (decide (j < i))) (tCall spDip [] E0 (tCons (tVar 0) (tCons (tC (.int 4)) tNil))) (tC (.int 0)))) (te := tVar 5) rfl sc_part.nd rfl rfl (sw_true rfl rfl rfl (by decide +kernel))
          (pi_list (pe_op op_cat (pe_slice sl_list (pv 1) (po_some (pv 3)) po_none) (pe_slice sl_list (pv 1) po_none (po_some (pv 3))))) (blkOk_by (N := nPart) (sc := defScope (top 58)) (by decide +kernel)) (fun _ _ _ _ _ => pg_name (i := 5) sc_part.nd rfl (Or.inl rfl))
          (fun _ _ _ _ _ => pts_one (pt_cmpR op_gt (pe_cal C1 hr (pa_cons (pv 0) (pa_cons pe_int pa_nil))) pe_int (nomark _))) (fun _ _ _ _ _ => pv 5))
      (pss_one (ps_ret (pe_slice sl_list (pv 4) po_none (po_some (pv 2)))))), ?_⟩
    refine ⟨_, rfl, _, rfl, _, _, rfl, .inl ⟨_, hq, rfl⟩, d, c, _, rfl, hs, by omega, by omega, fun r H1 hr0 hr1 kb1 hs1 => ?_⟩
    have hq1 := sql_spr hq hs kb1
    have pr1 := pr_spr pr hs kb1
    refine ⟨_, rfl, _, rfl, r, rfl, a, xs, rfl, hq1, fun S1 hS1 => ?_⟩
    have s1 : Same H1 (upd H1 S1 (.lst (cutV xs (some r) none))) := same_upd hS1
    refine ⟨_, rfl, _, rfl, r, rfl, a, xs, rfl, hq1.ext s1, fun S2 hS2 => ?_⟩
    have s2 := same_upd (o := .lst (cutV xs none (some r))) hS2
    have hl1 := cutV_length xs (some r) none
    have hl2 := cutV_length xs none (some r)
    have hcl : (cutV xs (some r) none ++ cutV xs none (some r)).length ≤ 2 * xs.length := by rw [List.length_append]; omega
    refine ⟨S1, S2, _, _, rfl, rfl, s2 _ _ upd_same, upd_same, by rw [sizeLine_eq]; omega, fun C hC => ?_⟩
    have s3 := same_upd (o := .lst (cutV xs (some r) none ++ cutV xs none (some r))) hC
    have sA := (s1.trans s2).trans s3
    have hs4 := spr_same hs1 sA
    have pr4 := pr_same pr1 sA
    generalize hH4 : upd (upd (upd H1 S1 (.lst (cutV xs (some r) none))) S2 (.lst (cutV xs none (some r)))) C (.lst (cutV xs (some r) none ++ cutV xs none (some r))) = H4 at *
    have hC4 : H4 C = some (.lst (cutV xs (some r) none ++ cutV xs none (some r))) := by rw [← hH4]; exact upd_same
    refine ⟨C, rfl, ⟨_, SqL.of hC4⟩, fun D hD => ?_⟩
    obtain ⟨nd, nc⟩ := spr_ne hs4 hD
    refine lc_list (g := gName 5) (vs := [5]) (xs := cutV xs (some r) none ++ cutV xs none (some r)) (fun i H' => (∀ b o, H4 b = some o → b ≠ d → H' b = some o) ∧ Spr H' d c ∧ ∃ acc sel, H' D = some (.lst acc) ∧ Paired (gT K H') acc sel ∧ (∀ x ∈ sel, x ∈ Ls) ∧ acc.length ≤ i)
      ⟨fun b o e _ => same_upd hD b o e, spr_same hs4 (same_upd hD), [], [], upd_same, .nil, fun x h => absurd h (by simp), Nat.le_refl _⟩ ?_ ?_ ?_
    · rintro i H' _ ⟨kb, _⟩
      exact sql_spr (SqL.of hC4) hs4 kb
    · rintro i x H' hx ⟨kb, hsp, acc, sel, hDa, pa, hsel, hli⟩
      obtain ⟨n, hn, tx⟩ : ∃ n ∈ Ls, TupI K H4 x n := by
        have hm : x ∈ xs := by
          rcases List.mem_append.mp (List.mem_of_getElem? hx) with m | m
          · exact cutV_sub m
          · exact cutV_sub m
        exact pr_mem pr4 hm
      have tx' := tupI_spr tx hs4 kb
      refine ⟨rfl, _, rfl, d, c, 4, rfl, hsp, by decide, by decide, fun r2 H2 hr20 hr21 kb2 hsp2 => ⟨r2, 0, rfl, rfl, _, rfl, ?_⟩⟩
      have pa2 := pr_spr pa hsp kb2
      have hDa2 := lst_spr hDa hsp kb2
      by_cases hp : 0 < r2
      · refine ite_t (decide_eq_true hp) ⟨_, rfl, acc, hDa2, ?_, fun b o e nb => ?_, spr_kb hsp2 Kb.upd nd nc, acc ++ [x], sel ++ [n], upd_same, ?_, ?_, ?_⟩
        · have hi : i < (cutV xs (some r) none ++ cutV xs none (some r)).length := (List.getElem?_eq_some_iff.mp hx).1
          rw [sizeLine_eq]; omega
        · rw [upd_ne (ne_of_none e hD)]
          exact kb2 _ _ (kb _ _ e nb) nb
        · exact pr_append (pr_ext pa2 fun x y _ g => stbT _ _ _ _ _ g Kb.upd hDa2) (.cons (stbT _ _ _ _ _ (tupI_spr tx' hsp kb2) Kb.upd hDa2) .nil)
        · intro y hy
          rcases List.mem_append.mp hy with m | m
          · exact hsel y m
          · rw [List.mem_singleton.mp m]; exact hn
        · rw [List.length_append]; simp; omega
      · exact ite_f (decide_eq_false hp) ⟨fun b o e nb => kb2 _ _ (kb _ _ e nb) nb, hsp2, acc, sel, hDa2, pa2, hsel, by omega⟩
    · rintro H' ⟨kb, hsp, acc, sel, hDa, pa, hsel, hli⟩
      refine ⟨_, rfl, _, rfl, 30, rfl, D, acc, rfl, SqL.of hDa, fun q hq5 => ?_⟩
      have s5 : Same H' (upd H' q (.lst (cutV acc none (some 30)))) := same_upd hq5
      have e : cutV acc none (some 30) = acc.take (min 30 acc.length) := by
        unfold cutV
        rw [HT.sIx_none, show (some (30 : Int)) = some ((30 : Nat) : Int) from rfl, HT.sIx_nat]
        simp
      refine k _ q (cutV acc none (some 30)) (sel.take (min 30 acc.length)) upd_same ?_ (fun x hx => hsel x (List.mem_of_mem_take hx)) ?_ ?_ (fun b o e nb => s5 _ _ (kb b o (sA _ _ (kb1 _ _ e nb)) nb)) (spr_same hsp s5)
      · rw [e]
        exact pr_same (pr_take pa _) (by rw [← e]; exact s5)
      · rw [e, List.length_take]; omega
      · rw [e, List.length_take]; omega
/-! _law_all: 56 -/
theorem cart_facts (m : Nat) : ∀ (n : Nat), ∀ x ∈ cart m n, x.length = n ∧ ∀ y ∈ x, y.natAbs ≤ m
  | 0, x, h => by
    rw [List.mem_singleton.mp h]
    exact ⟨rfl, fun y hy => absurd hy (by simp)⟩
  | n + 1, x, h => by
    obtain ⟨z, hz, h⟩ := List.mem_flatMap.mp h
    obtain ⟨i, hi, rfl⟩ := List.mem_map.mp h
    obtain ⟨h1, h2⟩ := cart_facts m n z hz
    have hi := List.mem_range.mp hi
    refine ⟨by rw [List.length_append, h1]; rfl, fun y hy => ?_⟩
    rcases List.mem_append.mp hy with q | q
    · exact h2 y q
    · rw [List.mem_singleton.mp q]
      omega
def spAll : Sp := fun vs H Q _ => ∃ (n m : Nat), vs = [.int (n : Int), .int (m : Int)] ∧ n ≤ 5 ∧ m ≤ 5 ∧ (2 * m + 1) ^ n ≤ 1000 ∧ ∀ H' a xs, Same H H' → H' a = some (.lst xs) → Paired (gT K H') xs (allR n m) → xs.length ≤ 1000 → Q (.ref a) H'
def nAll : List Str := ["_law_wide", "_law_most", "_law_found", "_law_lap", "_law_late", "_law_some", "_law_part_here", "_law_beam"]
theorem sc_all : FnScope nAll ["_law_wide", "_law_most"] (defScope (top 56)) := ⟨rfl, rfl, rfl, by decide +kernel, rfl, by decide +kernel, by decide +kernel⟩
theorem c_all (T : Tx K mg) (D : DefAt K mg "_law_all" (top 56)) (C1 : Cal P w K mg base "_law_is_beam" 3 ["_law_item", "_law_wide"] (spBeam (K := K))) : Cal P w K mg base "_law_all" 4 ["_law_wide", "_law_most"] (spAll (K := K)) := by
  refine cal_mk D sc_all (fun _ _ _ _ _ _ us hl => match us, hl with | [_, _], _ => rfl) (fun vs H Q E h => ?_) (fun cdv f A outer s H vs Q E hr h => ?_)
  · obtain ⟨n, m, rfl, _⟩ := h
    rfl
  · obtain ⟨n, m, rfl, hn, hm, hb, k⟩ := h
    refine ⟨_, pss_cons (ps_set (i := 2) sc_all.nd rfl (Or.inl rfl) (pe_lst (pa_cons (pe_tup pa_nil) pa_nil)))
      (pss_cons (ps_for PassesOwn.never rfl (pi_range1 (by rfl) T.range (pa_cons (pv 0) pa_nil)) (pg_name (i := 3) sc_all.nd rfl (Or.inl rfl))
        (pss_cons (ps_set (i := 4) sc_all.nd rfl (Or.inl rfl) (pe_lst pa_nil))
        (pss_cons (ps_for PassesOwn.never rfl (pi_list (pv 2)) (pg_name (i := 5) sc_all.nd rfl (Or.inr rfl))
            (pss_one (ps_set (i := 4) sc_all.nd rfl (Or.inl rfl) (pe_op op_cat (pv 4) (pe_lc (own := [("_law_part_here", 6)]) (g := gName 6) (tt := tYes) (te := tOp (rCatA K) (tVar 5) (tTup (tCons (tVar 6) tNil))) rfl sc_all.nd (pi_range2 (by rfl) T.range (pa_cons (pe_op op_sub pe_int (pv 1)) (pa_cons (pe_op op_add (pv 1) pe_int) pa_nil)))
                (blkOk_by (N := nAll) (sc := defScope (top 56)) (by decide +kernel)) (fun _ _ _ _ _ => pg_name (i := 6) sc_all.nd rfl (Or.inl rfl)) (fun _ _ _ _ _ => pts_nil) (fun _ _ _ _ _ => pe_op op_catA (pv 5) (pe_tup (pa_cons (pv 6) pa_nil))))))))
        (pss_one (ps_set (i := 2) sc_all.nd rfl (Or.inl rfl) (pv 4))))))
      (pss_one (ps_ret (pe_lc (own := [("_law_beam", 7)]) (g := gName 7) (tt := tB (tCall (spBeam (K := K)) [] E0 (tCons (tVar 7) (tCons (tVar 0) tNil)))) (te := tVar 7) rfl sc_all.nd (pi_list (pv 2)) (blkOk_by (N := nAll) (sc := defScope (top 56)) (by decide +kernel)) (fun _ _ _ _ _ => pg_name (i := 7) sc_all.nd rfl (Or.inl rfl))
          (fun _ _ _ _ _ => pts_one (pt_val (pe_cal C1 hr (pa_cons (pv 7) (pa_cons (pv 0) pa_nil))))) (fun _ _ _ _ _ => pv 7))))), ?_⟩
    refine ⟨by show 0 ≤ sizeLine; decide, fun U hU => ⟨by show 1 ≤ sizeLine; decide, fun X0 hX0 => ?_⟩⟩
    have sU : Same H (upd H U (.tup [])) := same_upd hU
    have sX := sU.trans (same_upd (o := .lst [.ref U]) hX0)
    refine ⟨_, rfl, (n : Int), rfl, by omega, by omega, ?_⟩
    rw [Int.toNat_natCast]
    refine for_range (n := n) (fun j σ H' => ∃ (o3 o4 o5 : Option V) (X : Addr) (xs : List V), σ = [some (.int (n : Int)), some (.int (m : Int)), some (.ref X), o3, o4, o5, none, none] ∧ Same H H' ∧ H' X = some (.lst xs) ∧ Paired (gT K H') xs (cart m j) ∧ xs.length ≤ (2 * m + 1) ^ j)
      ⟨none, none, none, X0, [.ref U], rfl, sX, upd_same, .cons ⟨U, rfl, (SqT.of upd_same : SqT K (upd H U (.tup [])) U (([] : List Int).map V.int)).ext (same_upd hX0)⟩ .nil, Nat.le_refl _⟩ ?_ ?_
    · rintro j σ H0 hj ⟨o3, o4, o5, X, xs, rfl, s0, hX, pr, hlx⟩
      refine ⟨by show 0 ≤ sizeLine; decide, fun Y0 hY0 => ?_⟩
      have sY := same_upd (o := .lst []) hY0
      have hpow : (2 * m + 1) ^ (j + 1) ≤ 1000 := Nat.le_trans (Nat.pow_le_pow_right (by omega) hj) hb
      have hpow1 : xs.length * (2 * m + 1) ≤ (2 * m + 1) ^ (j + 1) := by rw [Nat.pow_succ]; exact Nat.mul_le_mul_right _ hlx
      refine ⟨_, rfl, X, rfl, ⟨_, SqL.of (sY _ _ hX)⟩, for_list (xs := xs) (fun i σ H2 => ∃ (o5 : Option V) (Y : Addr) (ys : List V), σ = [some (.int (n : Int)), some (.int (m : Int)), some (.ref X), some (.int (0 + (j : Int))), some (.ref Y), o5, none, none] ∧ Same (upd H0 Y0 (.lst [])) H2 ∧ H2 Y = some (.lst ys) ∧
          Paired (gT K H2) ys (((cart m j).take i).flatMap fun some => (List.range (2 * m + 1)).map fun (i : Nat) => some ++ [(i : Int) - (m : Int)]) ∧ ys.length ≤ i * (2 * m + 1)) ⟨o5, Y0, [], rfl, fun _ _ e => e, upd_same, .nil, Nat.zero_le _⟩ ?_ ?_ ?_⟩
      · rintro i σ H2 _ ⟨_, _, _, _, s2, _⟩
        exact SqL.of (s2 _ _ (sY _ _ hX))
      · rintro i x σ H2 hx ⟨o5, Y, ys, rfl, s2, hY, pa, hly⟩
        obtain ⟨b, hb2, hxb⟩ := pr_get pr hx
        obtain ⟨t, rfl, hq⟩ := tupI_same hxb (sY.trans s2)
        have hi : i < xs.length := (List.getElem?_eq_some_iff.mp hx).1
        have hmul : (i + 1) * (2 * m + 1) ≤ xs.length * (2 * m + 1) := Nat.mul_le_mul_right _ hi
        obtain ⟨cl, _⟩ := cart_facts m j b (List.mem_of_getElem? hb2)
        refine ⟨_, rfl, _, rfl, 0, (m : Int), rfl, rfl, _, rfl, (m : Int), 1, rfl, rfl, _, _, rfl, ⟨by omega, by omega, by omega, by omega⟩, ?_⟩
        rw [show ((m : Int) + 1 - (0 - (m : Int))).toNat = 2 * m + 1 from by omega]
        refine fun D hD => lcR (n := 2 * m + 1) (G := gT K) (p := fun _ => true) (f := fun (k : Nat) => b ++ [(k : Int) - (m : Int)]) hD (by rw [sizeLine_eq]; omega) stbT (lcT_yes fun _ => rfl) ?_ ?_
        · rintro v k hk rfl _ H3 s3 Q q
          have eM : [V.int (0 - (m : Int) + (k : Int))] = ([(k : Int) - (m : Int)] : List Int).map V.int := by
            rw [List.map_cons, show (0 - (m : Int) + (k : Int)) = (k : Int) - (m : Int) from by omega]
            rfl
          refine ⟨_, rfl, _, rfl, by show 1 ≤ sizeLine; decide, fun W hW => ⟨t, W, b.map V.int, _, rfl, rfl, hq.ext (s3.trans (same_upd hW)), SqT.of upd_same, ?_, fun e => ?_, fun _ h => absurd h (List.cons_ne_nil _ _), fun _ _ p hp => ?_⟩⟩
          · rw [List.length_map, sizeLine_eq]
            show b.length + 1 ≤ _
            omega
          · refine q _ _ (same_upd hW) ⟨W, rfl, SqT.of ?_⟩
            rw [upd_same, eM, List.map_append, e, List.nil_append]
          · refine q _ _ ((same_upd hW).trans (same_upd hp)) ⟨p, rfl, SqT.of ?_⟩
            rw [upd_same, eM, List.map_append]
        · intro H3 zs s3 hd3 pr3
          rw [filter_true] at pr3
          have hzl : zs.length = 2 * m + 1 := by rw [pr3.length, List.length_map, List.length_range]
          have e1 : (i + 1) * (2 * m + 1) = i * (2 * m + 1) + (2 * m + 1) := Nat.succ_mul _ _
          refine ⟨Y, D, ys, zs, rfl, rfl, s3 _ _ hY, hd3, by rw [sizeLine_eq]; omega, fun Z hZ => ⟨some (.ref t), Z, ys ++ zs, rfl, (s2.trans s3).trans (same_upd hZ), upd_same, ?_, ?_⟩⟩
          · rw [take_snoc hb2, List.flatMap_append, List.flatMap_singleton]
            exact pr_append (pr_same pa (s3.trans (same_upd hZ))) (pr_same pr3 (same_upd hZ))
          · rw [List.length_append]; omega
      · rintro σ H2 ⟨o5, Y, ys, rfl, s2, hY, pa, hly⟩
        rw [pr.length, List.take_length] at pa
        exact ⟨_, rfl, some (.int (0 + (j : Int))), some (.ref Y), o5, Y, ys, rfl, (s0.trans sY).trans s2, hY, pa, by omega⟩
    · rintro σ H' ⟨o3, o4, o5, X, xs, rfl, s0, hX, pr, hlx⟩
      have hlc : (cart m n).length ≤ 1000 := by rw [← pr.length]; omega
      refine ⟨_, rfl, X, rfl, ⟨_, SqL.of hX⟩, fun D hD => lcL pr (SqL.of hX) hD (by rw [sizeLine_eq]; omega) stbT (G := gT K) (p := isBeam n) (f := fun x => x) ?_ ?_ ?_⟩
      · rintro v b hb2 hv H2 s2 Q q
        obtain ⟨c1, c2⟩ := cart_facts m n b hb2
        exact ⟨_, rfl, _, rfl, v, b, n, rfl, tupI_same hv s2, fun x hx => Nat.le_trans (c2 x hx) (by omega), by rw [c1, sizeLine_eq]; omega, fun H3 s3 => ⟨_, rfl, q H3 s3⟩⟩
      · rintro v b hb2 hv _ H2 s2 Q q
        exact ⟨_, rfl, q _ _ (fun _ _ e => e) (tupI_same hv s2)⟩
      · intro H2 ys s2 hd2 pr2
        rw [List.map_id'] at pr2
        refine k H2 D ys (s0.trans s2) hd2 pr2 ?_
        rw [pr2.length]
        exact Nat.le_trans (List.length_filter_le _ _) hlc
end
end RM
namespace RM
open PySem PySem.Spec PyProof.Rows L2
/-- a tuple of rays -/
def gF (K : PySem.W.Frag) : Hp → V → List (List Int) → Prop := fun H v F => ∃ t vs, v = .ref t ∧ SqT K H t vs ∧ Paired (gT K H) vs F
theorem stbF {K : PySem.W.Frag} {D : Addr} : Stb D (gF K) := by
  rintro H H' v F ys ⟨t, vs, rfl, q, p⟩ e n
  exact ⟨t, vs, rfl, sqT_kb q e n, pr_ext p fun _ _ _ g => stbT _ _ _ _ _ g e n⟩
theorem gF_same {K : PySem.W.Frag} {H H' : Hp} {v : V} {F : List (List Int)} (h : gF K H v F) (s : Same H H') : gF K H' v F := by
  obtain ⟨t, vs, rfl, q, p⟩ := h
  exact ⟨t, vs, rfl, q.ext s, pr_same p s⟩
/-- a frame so far -/
def Fr (R Ls : List (List Int)) (n : Nat) (F : List (List Int)) : Prop := F.reverse ∈ framesR R n ∧ ∀ a ∈ F, a ∈ Ls
theorem fr_one {R Ls : List (List Int)} {b : List Int} (h : b ∈ Ls) (hR : ∀ a ∈ Ls, a ∈ R) : Fr R Ls 0 [b] := ⟨List.mem_map.mpr ⟨b, hR b h, rfl⟩, fun a m => by rw [List.mem_singleton.mp m]; exact h⟩
theorem fr_more {R Ls : List (List Int)} {n : Nat} {F : List (List Int)} {b : List Int} (h : Fr R Ls n F) (hb : b ∈ Ls) (hR : ∀ a ∈ Ls, a ∈ R) (h1 : HT.lexLt (F.reverse.headD []) b = true) (h2 : F.filter (fun a => !decide (dot a b = 0)) = []) : Fr R Ls (n + 1) (F ++ [b]) := by
  refine ⟨?_, fun a m => ?_⟩
  · rw [List.reverse_append]
    refine List.mem_flatMap.mpr ⟨F.reverse, h.1, List.mem_map.mpr ⟨b, List.mem_filter.mpr ⟨hR b hb, ?_⟩, rfl⟩⟩
    rw [h1, Bool.true_and, List.all_eq_true]
    intro a ha
    have := List.filter_eq_nil_iff.mp h2 a (List.mem_reverse.mp ha)
    simpa using this
  · rcases List.mem_append.mp m with q | q
    · exact h.2 a q
    · rw [List.mem_singleton.mp q]; exact hb
theorem fr_ne {R Ls : List (List Int)} : ∀ {n : Nat} {F : List (List Int)}, Fr R Ls n F → F ≠ []
  | 0, F, h => by
    obtain ⟨b, _, e⟩ := List.mem_map.mp h.1
    rintro rfl
    cases e
  | n + 1, F, h => by
    obtain ⟨s, _, h⟩ := List.mem_flatMap.mp h.1
    obtain ⟨b, _, e⟩ := List.mem_map.mp h
    rintro rfl
    cases e
theorem fr_len {R Ls : List (List Int)} {n : Nat} {F : List (List Int)} (h : Fr R Ls n F) : F.length = n + 1 := by
  have : ∀ (n : Nat) (G : List (List Int)), G ∈ framesR R n → G.length = n + 1 := by
    intro n
    induction n with
    | zero =>
      intro G hG
      obtain ⟨b, _, rfl⟩ := List.mem_map.mp hG
      rfl
    | succ n ih =>
      intro G hG
      obtain ⟨s, hs, hG⟩ := List.mem_flatMap.mp hG
      obtain ⟨b, _, rfl⟩ := List.mem_map.mp hG
      rw [List.length_cons, ih s hs]
  rw [← List.length_reverse]
  exact this n _ h.1
theorem and_joinP {t u : TT} {σ : L2.St} {H : Hp} {Q : Bool → Hp → Prop} (J : Bool → Hp → Prop) (hJ : ∀ b H', J b H' → Q b H') (h : ∀ Q' : Bool → Hp → Prop, (∀ b H', J b H' → Q' b H') → tAnd t u σ H Q') : tAnd t u σ H Q := h Q hJ
theorem pr_last {K : PySem.W.Frag} {H : Hp} {vs : List V} {F : List (List Int)} (h : Paired (gT K H) vs F) (ne : F ≠ []) : ∃ u, atI vs (-1) = some u ∧ TupI K H u (F.reverse.headD []) := by
  obtain ⟨F', x, rfl⟩ : ∃ F' x, F = F' ++ [x] := ⟨F.dropLast, F.getLast ne, (List.dropLast_concat_getLast ne).symm⟩
  have hl := h.length
  rw [List.length_append] at hl
  obtain ⟨vs', u, rfl⟩ : ∃ vs' u, vs = vs' ++ [u] := by
    have hv : vs ≠ [] := by rintro rfl; simp at hl
    exact ⟨vs.dropLast, vs.getLast hv, (List.dropLast_concat_getLast hv).symm⟩
  rw [List.length_append] at hl
  have hl' : vs'.length = F'.length := by simpa using hl
  refine ⟨u, atI_last _ _, ?_⟩
  obtain ⟨y, hy, r⟩ := pr_get h (i := vs'.length) (x := u) (by simp)
  rw [hl', List.getElem?_append_right (Nat.le_refl _), Nat.sub_self] at hy
  obtain rfl : x = y := Option.some.inj hy
  rw [List.reverse_append]
  exact r
section
variable {P : Program} {w : World} {K : PySem.W.Frag} {mg : Str → Option Value} {base : Heap}
/-! _law_sets: 55 -/
def spSets : Sp := fun vs H Q _ => ∃ (a b : Addr) (n B : Nat) (xs : List V) (R Ls : List (List Int)), vs = [.ref a] ∧ SqT K H a [.int (n : Int), .ref b] ∧ SqT K H b xs ∧ Paired (gT K H) xs Ls ∧ 1 ≤ n ∧ n ≤ 5 ∧ Ls.length ≤ B ∧ 1 ≤ B ∧ B ^ n ≤ 8000000 ∧ (∀ x ∈ Ls, x ∈ R) ∧ (∀ x ∈ R, x.length = n ∧ Far x) ∧
  ∀ H' q ys, Same H H' → H' q = some (.lst ys) → (∀ y ∈ ys, ∃ F, gF K H' y F ∧ Fr R Ls (n - 1) F) → Q (.ref q) H'
def nSets : List Str := ["_law_heap", "_law_wide", "_law_beams", "_law_found", "_law_lap", "_law_late", "_law_some", "_law_beam", "_law_one"]
theorem sc_sets : FnScope nSets ["_law_heap"] (defScope (top 55)) := ⟨rfl, rfl, rfl, by decide +kernel, rfl, by decide +kernel, by decide +kernel⟩
theorem c_sets (T : Tx K mg) (D : DefAt K mg "_law_sets" (top 55)) (C1 : Cal P w K mg base "_law_dot" 1 ["_law_first", "_law_second"] (spDot (K := K))) : Cal P w K mg base "_law_sets" 2 ["_law_heap"] (spSets (K := K)) := by
  refine cal_mk D sc_sets (fun _ _ _ _ _ _ us hl => match us, hl with | [_], _ => rfl) (fun vs H Q E h => ?_) (fun cdv f A outer s H vs Q E hr h => ?_)
  · obtain ⟨a, b, n, B, xs, R, Ls, rfl, _⟩ := h
    rfl
  · obtain ⟨a, b, n, B, xs, R, Ls, rfl, hqa, hqb, pr, hn1, hn5, hLB, hB1, hBn, hR, hRf, k⟩ := h
    refine ⟨_, pss_cons (ps_asg (pv 0) (pg_tup rfl (pgs_cons (pg_name (i := 1) sc_sets.nd rfl (Or.inl rfl)) (pgs_cons (pg_name (i := 2) sc_sets.nd rfl (Or.inl rfl)) pgs_nil))))
      (pss_cons (ps_setLc (i := 3) (own := [("_law_beam", 7)]) (g := gName 7) (tt := tYes) (te := tTup (tCons (tVar 7) tNil)) rfl sc_sets.nd rfl rfl (sw_true rfl rfl rfl (by decide +kernel)) (pi_tup (pv 2)) (blkOk_by (N := nSets) (sc := defScope (top 55)) (by decide +kernel)) (fun _ _ _ _ _ => pg_name (i := 7) sc_sets.nd rfl (Or.inl rfl)) (fun _ _ _ _ _ => pts_nil) (fun _ _ _ _ _ => pe_tup (pa_cons (pv 7) pa_nil)))
      (pss_cons (ps_for PassesOwn.never rfl (pi_range1 (by rfl) T.range (pa_cons (pe_op op_sub (pv 1) pe_int) pa_nil)) (pg_name (i := 4) sc_sets.nd rfl (Or.inl rfl))
        (pss_cons (ps_set (i := 5) sc_sets.nd rfl (Or.inl rfl) (pe_lst pa_nil))
        (pss_cons (ps_for PassesOwn.never rfl (pi_list (pe_callTy call_list_of (by rfl) T.list rfl (pa_cons (pv 3) pa_nil))) (pg_name (i := 6) sc_sets.nd rfl (Or.inl rfl))
          (pss_one (ps_for PassesOwn.never rfl (pi_tup (pv 2)) (pg_name (i := 7) sc_sets.nd rfl (Or.inr rfl))
            (pss_one (ps_if (PW.pt (pw_and (pt_cmpR (op_ltT hr.units0) (pe_ix ix_tup (pv 6) (pe_un un_neg pe_int) (fun _ _ => rfl)) (pv 7) (nomark _))
                (pw_and1 (pt_cmpR (op_eqD hr.units) (pe_lc (own := [("_law_one", 8)]) (g := gName 8) (tt := tTest (tOp rNe (tCall (spDot (K := K)) [] E0 (tCons (tVar 8) (tCons (tVar 7) tNil))) (tC (.int 0)))) (te := tVar 8) rfl sc_sets.nd (pi_tup (pv 6)) (blkOk_by (N := nSets) (sc := defScope (top 55)) (by decide +kernel)) (fun _ _ _ _ _ => pg_name (i := 8) sc_sets.nd rfl (Or.inl rfl))
                  (fun _ _ _ _ _ => pts_one (pt_cmpR op_ne (pe_cal C1 hr (pa_cons (pv 8) (pa_cons (pv 7) pa_nil))) pe_int (nomark _))) (fun _ _ _ _ _ => pv 8)) (pe_lst pa_nil) (nomark _)))))
              (pss_one (ps_expr (pe_bm PySem.F.plainAttrs_list PySem.F.slot_list_append PySem.F.type_list_append mt_append (pv 5) (pa_cons (pe_op op_catA (pv 6) (pe_tup (pa_cons (pv 7) pa_nil))) pa_nil)))) pss_nil)))))
        (pss_one (ps_set (i := 3) sc_sets.nd rfl (Or.inl rfl) (pv 5))))))
      (pss_one (ps_ret (pv 3))))), ?_⟩
    have hz : Ls.length ≤ sizeLine := by
      have h1 : B ^ 1 ≤ B ^ n := Nat.pow_le_pow_right hB1 hn1
      rw [Nat.pow_one] at h1
      rw [sizeLine_eq]; omega
    refine ⟨_, rfl, a, _, rfl, hqa, rfl, _, _, rfl, _, _, rfl, rfl, ?_⟩
    refine ⟨_, rfl, b, rfl, ⟨_, hqb⟩, fun D0 hD0 => lcTu (G := gF K) pr hqb hD0 hz stbF (p := fun _ => true) (f := fun x => [x]) (lcT_yes fun _ => rfl) ?_ ?_⟩
    · rintro v x hx hv _ H' s' Q q
      exact ⟨_, rfl, by show 1 ≤ sizeLine; decide, fun p hp => q _ _ (same_upd hp) ⟨p, [v], rfl, SqT.of upd_same, .cons (tupI_same hv (s'.trans (same_upd hp))) .nil⟩⟩
    intro H1 ys0 s1 hd1 pr1
    rw [filter_true] at pr1
    refine ⟨_, rfl, (n : Int), 1, rfl, rfl, _, rfl, by omega, by omega, ?_⟩
    rw [show ((n : Int) - 1).toNat = n - 1 from by omega]
    refine for_range (n := n - 1) (fun j σ H' => ∃ (o4 o5 o6 o7 : Option V) (X : Addr) (ys : List V), σ = [some (.ref a), some (.int (n : Int)), some (.ref b), some (.ref X), o4, o5, o6, o7, none] ∧ Same H H' ∧ H' X = some (.lst ys) ∧ (∀ y ∈ ys, ∃ F, gF K H' y F ∧ Fr R Ls j F) ∧ ys.length ≤ B ^ (j + 1))
      ⟨none, none, none, none, D0, ys0, rfl, s1, hd1, fun y hy => ?_, ?_⟩ ?_ ?_
    · obtain ⟨F, hF, g⟩ := pr_mem pr1 hy
      obtain ⟨x, hx, rfl⟩ := List.mem_map.mp hF
      exact ⟨_, g, fr_one hx hR⟩
    · rw [pr1.length, List.length_map, Nat.zero_add, Nat.pow_one]; exact hLB
    · rintro j σ H0 hj ⟨o4, o5, o6, o7, X, ys, rfl, s0, hX, hys, hyl⟩
      have hBj : B ^ (j + 2) ≤ 8000000 := Nat.le_trans (Nat.pow_le_pow_right hB1 (by omega)) hBn
      have hyB : ys.length * B ≤ B ^ (j + 2) := by rw [Nat.pow_succ]; exact Nat.mul_le_mul_right _ hyl
      refine ⟨by show 0 ≤ sizeLine; decide, fun Y hY => ?_⟩
      have sY := same_upd (o := .lst []) hY
      refine ⟨_, rfl, X, ys, rfl, .inl (SqL.of (sY _ _ hX)), fun Z hZ => ⟨Z, rfl, ⟨_, SqL.of upd_same⟩, ?_⟩⟩
      have sZ := same_upd (o := .lst ys) hZ
      have s03 : Same H0 (upd (upd H0 Y (.lst [])) Z (.lst ys)) := sY.trans sZ
      have hY3 : (upd (upd H0 Y (.lst [])) Z (.lst ys)) Y = some (.lst []) := sZ _ _ upd_same
      have hZ3 : (upd (upd H0 Y (.lst [])) Z (.lst ys)) Z = some (.lst ys) := upd_same
      have nZY : Z ≠ Y := by
        rintro rfl
        rw [upd_same] at hZ
        cases hZ
      generalize upd (upd H0 Y (.lst [])) Z (.lst ys) = H3 at s03 hY3 hZ3
      refine for_list (xs := ys) (fun i σ H4 => ∃ (o6 o7 : Option V) (acc : List V), σ = [some (.ref a), some (.int (n : Int)), some (.ref b), some (.ref X), some (.int (0 + (j : Int))), some (.ref Y), o6, o7, none] ∧ Kb Y H3 H4 ∧ H4 Y = some (.lst acc) ∧ (∀ y ∈ acc, ∃ F, gF K H4 y F ∧ Fr R Ls (j + 1) F) ∧ acc.length ≤ i * B)
        ⟨o6, o7, [], rfl, Kb.refl, hY3, fun y h => absurd h (by simp), Nat.zero_le _⟩ ?_ ?_ ?_
      · rintro i σ H4 _ ⟨_, _, _, _, kb, _⟩
        exact SqL.of (kb _ _ hZ3 nZY)
      · rintro i y σ H4 hy ⟨o6, o7, acc, rfl, kb, hYa, hacc, hal⟩
        have hi : i < ys.length := (List.getElem?_eq_some_iff.mp hy).1
        obtain ⟨F, gFF, frF⟩ := hys y (List.mem_of_getElem? hy)
        have hFl := fr_len frF
        have hiB : (i + 1) * B ≤ ys.length * B := Nat.mul_le_mul_right _ hi
        have hiB2 : (i + 1) * B = i * B + B := Nat.succ_mul _ _
        have qb : ∀ H5, Kb Y H3 H5 → SqT K H5 b xs := fun H5 kb5 => sqT_kb (hqb.ext (s0.trans s03)) kb5 hY3
        refine ⟨_, rfl, b, rfl, ⟨_, qb _ kb⟩, for_tup (xs := xs) (fun i3 σ H5 => ∃ (o7 : Option V) (acc : List V), σ = [some (.ref a), some (.int (n : Int)), some (.ref b), some (.ref X), some (.int (0 + (j : Int))), some (.ref Y), some y, o7, none] ∧ Kb Y H3 H5 ∧ H5 Y = some (.lst acc) ∧ (∀ y ∈ acc, ∃ F, gF K H5 y F ∧ Fr R Ls (j + 1) F) ∧ acc.length ≤ i * B + i3)
          ⟨o7, acc, rfl, kb, hYa, hacc, by omega⟩ ?_ ?_ ?_⟩
        · rintro i3 σ H5 _ ⟨_, _, _, kb5, _⟩
          exact qb _ kb5
        · rintro i3 x σ H5 hx ⟨o7, acc, rfl, kb5, hYa, hacc, hal⟩
          obtain ⟨b3, hb3, hxb⟩ := pr_get pr hx
          have hb3L : b3 ∈ Ls := List.mem_of_getElem? hb3
          have hi3 : i3 < Ls.length := (List.getElem?_eq_some_iff.mp hb3).1
          have tx : TupI K H5 x b3 := tupI_kb (tupI_same hxb (s0.trans s03)) kb5 hY3
          obtain ⟨t, vs, rfl, qt, pF⟩ := stbF _ _ _ _ _ (gF_same gFF s03) kb5 hY3
          obtain ⟨u, hu1, hu2⟩ := pr_last pF (fr_ne frF)
          refine and_joinP (fun c H6 => c = (HT.lexLt (F.reverse.headD []) b3 && decide (F.filter (fun a => !decide (dot a b3 = 0)) = [])) ∧ Same H5 H6) ?_ ?_
          · rintro c H6 ⟨rfl, s6⟩
            have kb6 := kb5.trans (same_kb s6)
            have hY6 := s6 _ _ hYa
            cases c : (HT.lexLt (F.reverse.headD []) b3 && decide (F.filter (fun a => !decide (dot a b3 = 0)) = [])) with
            | false =>
              refine ite_f rfl ⟨some x, acc, rfl, kb6, hY6, fun y hy => ?_, by omega⟩
              obtain ⟨G, g1, g2⟩ := hacc y hy
              exact ⟨G, gF_same g1 s6, g2⟩
            | true =>
              rw [Bool.and_eq_true, decide_eq_true_eq] at c
              obtain ⟨c1, c2⟩ := c
              refine ite_t rfl ⟨_, rfl, .inl ⟨rfl, _, SqL.of hY6⟩, _, rfl, _, rfl, by show 1 ≤ sizeLine; decide, fun W hW => ⟨t, W, vs, [x], rfl, rfl, qt.ext (s6.trans (same_upd hW)), SqT.of upd_same, ?_, fun e => ?_, fun _ h => absurd h (List.cons_ne_nil _ _), fun _ _ p hp => ?_⟩⟩
              · rw [pF.length, hFl, sizeLine_eq]
                show j + 1 + 1 ≤ _
                omega
              · have := pF.length
                rw [e] at this
                have h0 : (0 : Nat) = F.length := this
                omega
              · have s7 : Same H6 _ := (same_upd (o := .tup [x]) hW).trans (same_upd (o := .tup (vs ++ [x])) hp)
                refine ⟨Y, acc, .ref p, rfl, rfl, s7 _ _ hY6, by rw [sizeLine_eq]; omega, some x, acc ++ [.ref p], rfl, (kb6.trans (same_kb s7)).trans Kb.upd, upd_same, fun y hy => ?_, by rw [List.length_append]; simp; omega⟩
                rcases List.mem_append.mp hy with q | q
                · obtain ⟨G, g1, g2⟩ := hacc y q
                  exact ⟨G, stbF _ _ _ _ _ (gF_same g1 (s6.trans s7)) Kb.upd (s7 _ _ hY6), g2⟩
                · rw [List.mem_singleton.mp q]
                  refine ⟨F ++ [b3], stbF _ _ _ _ _ ⟨p, vs ++ [x], rfl, SqT.of upd_same, pr_append (pr_same pF (s6.trans s7)) (.cons (tupI_same tx (s6.trans s7)) .nil)⟩ Kb.upd (s7 _ _ hY6), fr_more frF hb3L hR c1 c2⟩
          · intro Q' q'
            obtain ⟨tu, rfl, qu⟩ := hu2
            obtain ⟨tb, rfl, qtb⟩ := id tx
            refine ⟨_, rfl, 1, rfl, t, vs, _, .ref tu, rfl, rfl, qt, hu1, _, rfl, tu, tb, _, _, rfl, rfl, qu, qtb, _, rfl, ?_⟩
            cases c1 : HT.lexLt (F.reverse.headD []) b3 with
            | false => exact ite_f rfl (q' _ _ ⟨by rw [c1]; rfl, fun _ _ e => e⟩)
            | true =>
              refine ite_t rfl ⟨_, rfl, t, rfl, ⟨_, qt⟩, fun D hD => lcTu (G := gT K) pF qt hD (by rw [hFl, sizeLine_eq]; omega) stbT (p := fun a => !decide (dot a b3 = 0)) (f := fun a => a) ?_ ?_ ?_⟩
              · rintro v a2 ha2 hv H7 s7 Q q
                have hA := hRf a2 (hR a2 (frF.2 a2 ha2))
                have hB := hRf b3 (hR b3 hb3L)
                refine ⟨_, rfl, _, rfl, v, .ref tb, a2, b3, rfl, tupI_same hv s7, ⟨tb, rfl, qtb.ext s7⟩, by rw [hA.1, hB.1], by rw [hA.1, sizeLine_eq]; omega, hA.2, fun H8 s8 => ⟨rfl, _, rfl, ?_⟩⟩
                have e : (!decide (V.int (dot a2 b3) = V.int 0)) = !decide (dot a2 b3 = 0) := by simp
                rw [e]
                exact q H8 s8
              · rintro v a2 ha2 hv _ H7 s7 Q q
                exact ⟨_, rfl, q _ _ (fun _ _ e => e) (tupI_same hv s7)⟩
              · intro H7 zs s7 hd7 pr7
                rw [List.map_id'] at pr7
                refine ⟨by show 0 ≤ sizeLine; decide, fun M hM => ⟨dL (F.filter (fun a => !decide (dot a b3 = 0))), .list [], dp_list (SqL.of (same_upd hM _ _ hd7)) (pr_same pr7 (same_upd hM)), .lst (SqL.of upd_same) .nil, shp_dL _, rfl, _, rfl, ?_⟩⟩
                refine q' _ _ ⟨?_, s7.trans (same_upd hM)⟩
                rw [c1, Bool.true_and]
                exact eqv_dL _ []
        · rintro σ H5 ⟨o7, acc, rfl, kb5, hYa, hacc, hal⟩
          refine ⟨some y, o7, acc, rfl, kb5, hYa, hacc, ?_⟩
          rw [pr.length] at hal
          omega
      · rintro σ H4 ⟨o6, o7, acc, rfl, kb, hYa, hacc, hal⟩
        refine ⟨_, rfl, some (.int (0 + (j : Int))), some (.ref Y), o6, o7, Y, acc, rfl, fun c o e => kb c o (s03 _ _ (s0 _ _ e)) (ne_of_none (s0 _ _ e) hY), hYa, hacc, ?_⟩
        show acc.length ≤ B ^ (j + 2)
        omega
    · rintro σ H' ⟨o4, o5, o6, o7, X, ys, rfl, s0, hX, hys, hyl⟩
      exact ⟨_, rfl, k H' X ys s0 hX hys⟩
end
end RM
namespace RM
open PySem PySem.Spec PyProof.Rows L2
/-! ### the classes -/
def clsBody : Stmt → List Stmt
  | .ClassDef _ _ _ b _ _ _ _ _ _ _ => b
  | _ => []
def mth (i j : Nat) : Stmt := (clsBody (top i)).getD j (.Pass ⟨0, 0, 0, 0⟩)
def FunM (K : PySem.W.Frag) (x qual : Str) (st : Stmt) (f : Addr) (fd : FuncData) : Prop := FunD K x qual (defArgs st) (defBody st) (defScope st) [] [] f fd
/-- what both classes are -/
structure RCls (K : PySem.W.Frag) (Cr C : Addr) : Prop where
  cls : Cls K C
  nS : NoAttr K C "held_size"
  nM : NoAttr K C "held_modulus"
  nR : NoAttr K C "held_rests"
  nO : NoAttr K C "held_order"
  ha : PySem.W.findIn K (.ref C) "__class__" = some (some (.builtin "object.__class__"))
  hm : PySem.W.mroIn K C (.type "object") = some true
  ki : PySem.W.kitOne K (.ref C) (.ref Cr) = some true
structure KCls (K : PySem.W.Frag) : Prop where
  hn : PySem.W.specialIn K (.builtin "object.__class__") "__get__" = some (some (.builtin "getset_descriptor.__get__"))
  htk : PySem.W.takesIn K (.builtin "object.__class__") = some true
/-- an instance -/
structure Ru (K : PySem.W.Frag) (C : Addr) (H : Hp) (a : Addr) (wd m : Nat) (Ls : List (List Int)) : Prop where
  ex : ∃ (dx : Addr) (fs : List (Str × V)) (l : Addr) (xs : List V), H a = some (.ins C dx fs) ∧ fs.lookup ("held_size" : Str) = some (.int (wd : Int)) ∧ fs.lookup ("held_modulus" : Str) = some (.int (m : Int)) ∧ fs.lookup ("held_rests" : Str) = some (.ref l) ∧ H l = some (.lst xs) ∧ Paired (gT K H) xs Ls ∧ fs.lookup ("taken" : Str) = none
theorem ru_same {K : PySem.W.Frag} {C : Addr} {H H' : Hp} {a : Addr} {wd m : Nat} {Ls : List (List Int)} (h : Ru K C H a wd m Ls) (s : Same H H') : Ru K C H' a wd m Ls := by
  obtain ⟨dx, fs, l, xs, h1, h2, h3, h4, h5, h6, h7⟩ := h
  exact ⟨dx, fs, l, xs, s _ _ h1, h2, h3, h4, s _ _ h5, pr_same h6 s, h7⟩
theorem ru_spr {K : PySem.W.Frag} {C : Addr} {H H' : Hp} {a d c : Addr} {wd m : Nat} {Ls : List (List Int)} (h : Ru K C H a wd m Ls) (s : Spr H d c) (k : Kb d H H') : Ru K C H' a wd m Ls := by
  obtain ⟨dx, fs, l, xs, h1, h2, h3, h4, h5, h6, h7⟩ := h
  obtain ⟨u, g1, _, _, _, g5⟩ := spr_dk s
  exact ⟨dx, fs, l, xs, k _ _ h1 (ne_of h1 g1 fun z => g5 _ _ _ z.symm), h2, h3, h4, lst_spr h5 s k, pr_spr h6 s k, h7⟩
section
variable {P : Program} {w : World} {K : PySem.W.Frag} {mg : Str → Option Value} {base : Heap} {Cr : Addr}
/-! Rule.__len__ -/
def spLenM (Cr : Addr) : Sp := fun vs H Q _ => ∃ C a wd m Ls, RCls K Cr C ∧ vs = [.ref a] ∧ Ru K C H a wd m Ls ∧ Q (.int (Ls.length : Int)) H
theorem sc_lenm : FnScope ["self"] ["self"] (defScope (mth 39 6)) := ⟨rfl, rfl, rfl, by decide +kernel, rfl, by decide +kernel, by decide +kernel⟩
theorem m_len {f : Addr} {fd : FuncData} (T : Tx K mg) (F : FunM K "__len__" "Rule.__len__" (mth 39 6) f fd) : FnOk P w K mg base CX0 1 f fd ["self"] (spLenM (K := K) Cr) := by
  refine F.ok sc_lenm (fun vs H Q E h => ?_) (fun cdv A outer s H vs Q E hr h => ?_)
  · obtain ⟨C, a, wd, m, Ls, _, rfl, _⟩ := h
    rfl
  · obtain ⟨C, a, wd, m, Ls, RC, rfl, ⟨dx, fs, l, xs, h1, h2, h3, h4, h5, h6, h7⟩, k⟩ := h
    refine ⟨_, pss_one (ps_ret (pe_callB call_len (by rfl) T.len rfl (pa_cons (pe_fld (pv 0) rfl) pa_nil))), ?_⟩
    refine ⟨_, rfl, a, C, dx, fs, _, rfl, h1, RC.cls, RC.nR, h4, _, _, rfl, .inl ⟨xs, SqL.of h5, rfl⟩, ?_⟩
    rw [h6.length]
    exact k
/-! size_now, modulus_now, order_now -/
def spSizeM (Cr : Addr) : Sp := fun vs H Q _ => ∃ C a wd m Ls, RCls K Cr C ∧ vs = [.ref a] ∧ Ru K C H a wd m Ls ∧ Q (.int (wd : Int)) H
theorem sc_sizem : FnScope ["self"] ["self"] (defScope (mth 39 1)) := ⟨rfl, rfl, rfl, by decide +kernel, rfl, by decide +kernel, by decide +kernel⟩
theorem m_size {f : Addr} {fd : FuncData} (F : FunM K "size_now" "Rule.size_now" (mth 39 1) f fd) : FnOk P w K mg base CX0 1 f fd ["self"] (spSizeM (K := K) Cr) := by
  refine F.ok sc_sizem (fun vs H Q E h => ?_) (fun cdv A outer s H vs Q E hr h => ?_)
  · obtain ⟨C, a, wd, m, Ls, _, rfl, _⟩ := h
    rfl
  · obtain ⟨C, a, wd, m, Ls, RC, rfl, ⟨dx, fs, l, xs, h1, h2, h3, h4, h5, h6, h7⟩, k⟩ := h
    exact ⟨_, pss_one (ps_ret (pe_fld (pv 0) rfl)), _, rfl, a, C, dx, fs, _, rfl, h1, RC.cls, RC.nS, h2, k⟩
def spModM (Cr : Addr) : Sp := fun vs H Q _ => ∃ C a wd m Ls, RCls K Cr C ∧ vs = [.ref a] ∧ Ru K C H a wd m Ls ∧ Q (.int (m : Int)) H
theorem sc_modm : FnScope ["self"] ["self"] (defScope (mth 39 2)) := ⟨rfl, rfl, rfl, by decide +kernel, rfl, by decide +kernel, by decide +kernel⟩
theorem m_mod {f : Addr} {fd : FuncData} (F : FunM K "modulus_now" "Rule.modulus_now" (mth 39 2) f fd) : FnOk P w K mg base CX0 1 f fd ["self"] (spModM (K := K) Cr) := by
  refine F.ok sc_modm (fun vs H Q E h => ?_) (fun cdv A outer s H vs Q E hr h => ?_)
  · obtain ⟨C, a, wd, m, Ls, _, rfl, _⟩ := h
    rfl
  · obtain ⟨C, a, wd, m, Ls, RC, rfl, ⟨dx, fs, l, xs, h1, h2, h3, h4, h5, h6, h7⟩, k⟩ := h
    exact ⟨_, pss_one (ps_ret (pe_fld (pv 0) rfl)), _, rfl, a, C, dx, fs, _, rfl, h1, RC.cls, RC.nM, h3, k⟩
def spOrdM (Cr : Addr) : Sp := fun vs H Q _ => ∃ (C a dx : Addr) (fs : List (Str × V)) (v : V), RCls K Cr C ∧ vs = [.ref a] ∧ H a = some (.ins C dx fs) ∧ fs.lookup ("held_order" : Str) = some v ∧ Q v H
theorem sc_ordm : FnScope ["self"] ["self"] (defScope (mth 40 1)) := ⟨rfl, rfl, rfl, by decide +kernel, rfl, by decide +kernel, by decide +kernel⟩
theorem m_ord {f : Addr} {fd : FuncData} (F : FunM K "order_now" "TurnedRule.order_now" (mth 40 1) f fd) : FnOk P w K mg base CX0 1 f fd ["self"] (spOrdM (K := K) Cr) := by
  refine F.ok sc_ordm (fun vs H Q E h => ?_) (fun cdv A outer s H vs Q E hr h => ?_)
  · obtain ⟨C, a, dx, fs, v, _, rfl, _⟩ := h
    rfl
  · obtain ⟨C, a, dx, fs, v, RC, rfl, h1, h2, k⟩ := h
    exact ⟨_, pss_one (ps_ret (pe_fld (pv 0) rfl)), _, rfl, a, C, dx, fs, _, rfl, h1, RC.cls, RC.nO, h2, k⟩
/-! Rule.__contains__ -/
def spConM (Cr : Addr) : Sp := fun vs H Q _ => ∃ C a v wd m Ls ns, RCls K Cr C ∧ vs = [.ref a, v] ∧ Ru K C H a wd m Ls ∧ TupI K H v ns ∧ 0 < m ∧ ns.length ≤ sizeLine ∧ Far ns ∧ ∀ H', Same H H' → Q (.bl (meant wd m ns)) H'
theorem sc_conm : FnScope ["self", "thing"] ["self", "thing"] (defScope (mth 39 5)) := ⟨rfl, rfl, rfl, by decide +kernel, rfl, by decide +kernel, by decide +kernel⟩
theorem m_con {f : Addr} {fd : FuncData} (F : FunM K "__contains__" "Rule.__contains__" (mth 39 5) f fd) (C1 : Cal P w K mg base "is_meant" 5 ["size", "modulus", "thing"] (spMeant (K := K))) : FnOk P w K mg base CX0 6 f fd ["self", "thing"] (spConM (K := K) Cr) := by
  refine F.ok sc_conm (fun vs H Q E h => ?_) (fun cdv A outer s H vs Q E hr h => ?_)
  · obtain ⟨C, a, v, wd, m, Ls, ns, _, rfl, _⟩ := h
    rfl
  · obtain ⟨C, a, v, wd, m, Ls, ns, RC, rfl, ⟨dx, fs, l, xs, h1, h2, h3, h4, h5, h6, h7⟩, tv, hm, hz, hf, k⟩ := h
    refine ⟨_, pss_one (ps_ret (pe_cal C1 hr (pa_cons (pe_fld (pv 0) rfl) (pa_cons (pe_fld (pv 0) rfl) (pa_cons (pv 1) pa_nil))))), ?_⟩
    exact ⟨_, rfl, a, C, dx, fs, _, rfl, h1, RC.cls, RC.nS, h2, _, rfl, a, C, dx, fs, _, rfl, h1, RC.cls, RC.nM, h3, _, rfl, v, ns, wd, m, rfl, tv, hm, hz, hf, k⟩
/-! Rule.__call__ -/
def spCallM (Cr : Addr) : Sp := fun vs H Q _ => ∃ C a v wd m Ls ns, RCls K Cr C ∧ vs = [.ref a, v] ∧ Ru K C H a wd m Ls ∧ TupI K H v ns ∧ 0 < m ∧ ns.length ≤ sizeLine ∧ Far ns ∧ meant wd m ns = true ∧ ∀ H', Same H H' → Q (.bl (Ls.contains (canon m ns))) H'
theorem sc_callm : FnScope ["self", "ray"] ["self", "ray"] (defScope (mth 39 4)) := ⟨rfl, rfl, rfl, by decide +kernel, rfl, by decide +kernel, by decide +kernel⟩
theorem m_call {f : Addr} {fd : FuncData} (F : FunM K "__call__" "Rule.__call__" (mth 39 4) f fd) (C1 : Cal P w K mg base "is_meant" 5 ["size", "modulus", "thing"] (spMeant (K := K))) (CW : CalD P w K mg base "want" 1 ["is_right", "name", "place"] (.int (-1)) spWant)
    (C2 : Cal P w K mg base "rest_by" 1 ["modulus", "numbers"] (spRest (K := K))) : FnOk P w K mg base CX0 6 f fd ["self", "ray"] (spCallM (K := K) Cr) := by
  refine F.ok sc_callm (fun vs H Q E h => ?_) (fun cdv A outer s H vs Q E hr h => ?_)
  · obtain ⟨C, a, v, wd, m, Ls, ns, _, rfl, _⟩ := h
    rfl
  · obtain ⟨C, a, v, wd, m, Ls, ns, RC, rfl, ru, tv, hm, hz, hf, hme, k⟩ := h
    obtain ⟨dx, fs, l, xs, h1, h2, h3, h4, h5, h6, h7⟩ := id ru
    refine ⟨_, pss_cons (ps_expr (pe_want CW (hr.mono (by decide)) (pe_cal C1 hr (pa_cons (pe_fld (pv 0) rfl) (pa_cons (pe_fld (pv 0) rfl) (pa_cons (pv 1) pa_nil)))) pe_str (by rfl)))
      (pss_one (ps_ret (pe_cmpR (op_inD (room65 hr)) (pe_cal C2 (hr.mono (by decide)) (pa_cons (pe_fld (pv 0) rfl) (pa_cons (pv 1) pa_nil))) (pe_fld (pv 0) rfl) rfl))), ?_⟩
    refine ⟨_, rfl, a, C, dx, fs, _, rfl, h1, RC.cls, RC.nS, h2, _, rfl, a, C, dx, fs, _, rfl, h1, RC.cls, RC.nM, h3, _, rfl, v, ns, wd, m, rfl, tv, hm, hz, hf, fun H1 s1 => ?_⟩
    rw [hme]
    obtain ⟨b, rfl, qb⟩ := tupI_same tv s1
    obtain ⟨dx, fs, l, xs, h1, h2, h3, h4, h5, h6, h7⟩ := ru_same ru s1
    refine ⟨_, _, rfl, _, rfl, a, C, dx, fs, _, rfl, h1, RC.cls, RC.nM, h3, _, rfl, .ref b, ns, m, rfl, ⟨b, rfl, .inr qb⟩, hm, hz, fun H2 y s2 hy => ?_⟩
    refine ⟨_, rfl, a, C, dx, fs, _, rfl, s2 _ _ h1, RC.cls, RC.nR, h4, dT (canon m ns), Ls.map dT, dp_tup hy, dp_list (SqL.of (s2 _ _ h5)) (pr_same h6 s2), shp_dT _, shp_dL _, ?_⟩
    rw [any_dT]
    exact k H2 (s1.trans s2)
end
end RM
namespace RM
open PySem PySem.Spec PyProof.Rows L2
section
variable {P : Program} {w : World} {K : PySem.W.Frag} {mg : Str → Option Value} {base : Heap} {Cr : Addr}
/-! Rule.taken -/
def spTaken (Cr : Addr) : Sp := fun vs H Q _ => ∃ (C a lt b : Addr) (wd m : Nat) (Ls : List (List Int)) (xs : List V) (Rs : List (List Int)), RCls K Cr C ∧ vs = [.ref a, .ref lt] ∧ Ru K C H a wd m Ls ∧ SqT K H lt [.int (wd : Int), .ref b] ∧ SqT K H b xs ∧ Paired (gT K H) xs Rs ∧ 0 < m ∧ Rs.length ≤ sizeLine ∧
  (∀ r ∈ Rs, meant wd m r = true ∧ Far r ∧ r.length ≤ sizeLine) ∧ ∀ H' t ys, Same H H' → SqT K H' t ys → Paired (gT K H') ys (Rs.filter fun r => Ls.contains (canon m r)) → Q (.ref t) H'
def nTaken : List Str := ["self", "lot", "modulus", "one"]
theorem sc_taken : FnScope nTaken ["self", "lot"] (defScope (mth 39 3)) := ⟨rfl, rfl, rfl, by decide +kernel, rfl, by decide +kernel, by decide +kernel⟩
theorem m_taken {f : Addr} {fd : FuncData} (T : Tx K mg) (F : FunM K "taken" "Rule.taken" (mth 39 3) f fd) (C1 : Cal P w K mg base "is_meant" 5 ["size", "modulus", "thing"] (spMeant (K := K))) (CW : CalD P w K mg base "want" 1 ["is_right", "name", "place"] (.int (-1)) spWant)
    (C2 : Cal P w K mg base "rest_by" 1 ["modulus", "numbers"] (spRest (K := K))) : FnOk P w K mg base CX0 6 f fd ["self", "lot"] (spTaken (K := K) Cr) := by
  refine F.ok sc_taken (fun vs H Q E h => ?_) (fun cdv A outer s H vs Q E hr h => ?_)
  · obtain ⟨C, a, lt, b, wd, m, Ls, xs, Rs, _, rfl, _⟩ := h
    rfl
  · obtain ⟨C, a, lt, b, wd, m, Ls, xs, Rs, RC, rfl, ru, ql, qb, pr, hm, hz, hR, k⟩ := h
    obtain ⟨dx, fs, l, zs, h1, h2, h3, h4, h5, h6, h7⟩ := id ru
    refine ⟨_, pss_cons (ps_set (i := 2) sc_taken.nd rfl (Or.inr rfl) (pe_fld (pv 0) rfl))
      (pss_cons (ps_expr (pe_want CW (hr.mono (by decide)) (pe_and (pe_callB (cr_all rfl) (by rfl) T.all rfl (pa_cons (pe_lc (own := [("one", 3)]) (g := gName 3) (tt := tYes) (te := tCall (spMeant (K := K)) [] E0 (tCons (tFld K (tVar 0) "held_size") (tCons (tVar 2) (tCons (tVar 3) tNil)))) rfl sc_taken.nd (pi_tup (pe_ix ix_tup (pv 1) pe_int (fun _ _ => rfl))) (blkOk_by (N := nTaken) (sc := defScope (mth 39 3)) (by decide +kernel)) (fun _ _ _ _ _ => pg_name (i := 3) sc_taken.nd rfl (Or.inl rfl)) (fun _ _ _ _ _ => pts_nil)
            (fun _ _ _ _ _ => pe_cal C1 (by exact hr) (pa_cons (pe_fld (pv 0) rfl) (pa_cons (pv 2) (pa_cons (pv 3) pa_nil))))) pa_nil))
          (pe_one (pe_cmpR op_eq (pe_ix ix_tup (pv 1) pe_int (fun _ _ => rfl)) (pe_fld (pv 0) rfl) (nomark _)))) pe_str (by rfl)))
      (pss_one (ps_ret (pe_tupleOf (by rfl) T.tuple (pe_lc (own := [("one", 3)]) (g := gName 3) (tt := tTest (tOp (rInD K) (tCall (spRest (K := K)) [] E0 (tCons (tVar 2) (tCons (tVar 3) tNil))) (tFld K (tVar 0) "held_rests"))) (te := tVar 3) rfl sc_taken.nd (pi_tup (pe_ix ix_tup (pv 1) pe_int (fun _ _ => rfl))) (blkOk_by (N := nTaken) (sc := defScope (mth 39 3)) (by decide +kernel)) (fun _ _ _ _ _ => pg_name (i := 3) sc_taken.nd rfl (Or.inl rfl))
          (fun _ _ _ _ _ => pts_one (pt_cmpR (op_inD (by exact room65 hr)) (pe_cal C2 (by exact hr.mono (by decide)) (pa_cons (pv 2) (pa_cons (pv 3) pa_nil))) (pe_fld (pv 0) rfl) rfl)) (fun _ _ _ _ _ => pv 3)))))), ?_⟩
    refine ⟨_, rfl, a, C, dx, fs, _, rfl, h1, RC.cls, RC.nM, h3, ?_⟩
    refine ⟨_, rfl, lt, _, 1, .ref b, rfl, rfl, ql, atI_nat (j := 1) rfl, b, rfl, ⟨_, qb⟩, fun D hD => lcTu (G := gB) pr qb hD hz stbB (p := fun _ => true) (f := fun _ => true) (lcT_yes fun _ => rfl) ?_ ?_⟩
    · rintro v r hr2 hv _ H1 s1 Q q
      obtain ⟨dx, fs, l, zs, h1, h2, h3, h4, h5, h6, h7⟩ := ru_same ru s1
      obtain ⟨r1, r2, r3⟩ := hR r hr2
      refine ⟨_, rfl, a, C, dx, fs, _, rfl, h1, RC.cls, RC.nS, h2, _, rfl, _, rfl, v, r, wd, m, rfl, tupI_same hv s1, hm, r3, r2, fun H2 s2 => ?_⟩
      rw [r1]
      exact q _ _ s2 rfl
    intro H1 ys s1 hd1 pr1
    have e := pr_bl_eq pr1
    subst e
    have eall : (((Rs.filter fun _ => true).map fun _ => true)).all id = true := by
      rw [List.all_eq_true]
      intro x hx
      obtain ⟨y, _, rfl⟩ := List.mem_map.mp hx
      rfl
    obtain ⟨dx1, fs1, l1, zs1, g1, g2, g3, g4, g5, g6, g7⟩ := id (ru_same ru s1)
    refine ⟨D, _, rfl, SqL.of hd1, true, by rw [eall], ite_t rfl ⟨_, rfl, lt, _, 0, .int (wd : Int), rfl, rfl, ql.ext s1, atI_nat (j := 0) rfl, _, rfl, a, C, dx1, fs1, _, rfl, g1, RC.cls, RC.nS, g2, rfl, ?_⟩⟩
    rw [decide_eq_true (rfl : V.int (wd : Int) = V.int (wd : Int))]
    refine ⟨_, _, rfl, ?_⟩
    refine ⟨_, rfl, lt, _, 1, .ref b, rfl, rfl, ql.ext s1, atI_nat (j := 1) rfl, b, rfl, ⟨_, qb.ext s1⟩, fun D2 hD2 => lcTu (G := gT K) pr (qb.ext s1) hD2 hz stbT (p := fun r => Ls.contains (canon m r)) (f := fun r => r) ?_ ?_ ?_⟩
    · rintro v r hr2 hv H2 s2 Q q
      obtain ⟨r1, r2, r3⟩ := hR r hr2
      obtain ⟨t, rfl, qt⟩ := tupI_same hv (s1.trans s2)
      refine ⟨_, rfl, _, rfl, .ref t, r, m, rfl, ⟨t, rfl, .inr qt⟩, hm, r3, fun H3 y s3 hy => ?_⟩
      obtain ⟨dx, fs, l, zs, h1, h2, h3, h4, h5, h6, h7⟩ := ru_same ru ((s1.trans s2).trans s3)
      refine ⟨_, rfl, a, C, dx, fs, _, rfl, h1, RC.cls, RC.nR, h4, dT (canon m r), Ls.map dT, dp_tup hy, dp_list (SqL.of h5) h6, shp_dT _, shp_dL _, _, rfl, ?_⟩
      rw [any_dT]
      exact q H3 s3
    · rintro v r hr2 hv _ H2 s2 Q q
      exact ⟨_, rfl, q _ _ (fun _ _ e => e) (tupI_same hv (s1.trans s2))⟩
    · intro H2 ys2 s2 hd2 pr2
      rw [List.map_id'] at pr2
      exact .inl ⟨D2, ys2, rfl, SqL.of hd2, fun t ht => k _ t ys2 ((s1.trans s2).trans (same_upd ht)) (SqT.of upd_same) (pr_same pr2 (same_upd ht))⟩
/-! Rule.__eq__ -/
def spEqM (Cr : Addr) : Sp := fun vs H Q _ => ∃ (C a : Addr) (y : V) (wd m : Nat) (Ls : List (List Int)), RCls K Cr C ∧ vs = [.ref a, y] ∧ Ru K C H a wd m Ls ∧
  ((∃ (C' b : Addr) (wd' m' : Nat) (Ls' : List (List Int)), RCls K Cr C' ∧ y = .ref b ∧ Ru K C' H b wd' m' Ls' ∧ ∀ H', Same H H' → Q (.bl (decide (wd = wd' ∧ m = m' ∧ Ls = Ls'))) H') ∨
   (∃ t, TyX K H y t ∧ PySem.W.kitOne K t (.ref Cr) = some false ∧ Q (.bl false) H))
def nEq : List Str := ["self", "other", "mine"]
theorem sc_eqm : FnScope nEq ["self", "other"] (defScope (mth 39 8)) := ⟨rfl, rfl, rfl, by decide +kernel, rfl, by decide +kernel, by decide +kernel⟩
def dR (wd m : Nat) (Ls : List (List Int)) : PyData := .tuple [.int (wd : Int), .int (m : Int), dL Ls]
theorem shp_dR (wd m : Nat) (Ls : List (List Int)) : SeqAt.shaped (dR wd m Ls) = true := by
  have h1 := lay_dTs Ls
  have h2 := dep_dTs Ls
  show ((true && (true && (PyData.canLayAll0 (Ls.map dT) && true))) && decide (max 0 (max 0 (max (PyData.depthAll (Ls.map dT) + 1) 0)) + 1 ≤ 64)) = true
  rw [h1, decide_eq_true (by omega)]; rfl
theorem eqv_dR (wd m wd' m' : Nat) (Ls Ls' : List (List Int)) : PyData.eqv (dR wd m Ls) (dR wd' m' Ls') = decide (wd = wd' ∧ m = m' ∧ Ls = Ls') := by
  show (((wd : Int) == (wd' : Int)) && (((m : Int) == (m' : Int)) && (PyData.eqv (dL Ls) (dL Ls') && true))) = _
  rw [eqv_dL, Bool.and_true, Bool.eq_iff_iff]
  simp [Int.ofNat_inj]
theorem m_eq {f : Addr} {fd : FuncData} (T : Tx K mg) (KC : KCls K) (hC : mg "Rule" = some (.ref Cr)) (F : FunM K "__eq__" "Rule.__eq__" (mth 39 8) f fd) : FnOk P w K mg base CX0 1 f fd ["self", "other"] (spEqM (K := K) Cr) := by
  refine F.ok sc_eqm (fun vs H Q E h => ?_) (fun cdv A outer s H vs Q E hr h => ?_)
  · obtain ⟨C, a, y, wd, m, Ls, _, rfl, _⟩ := h
    rfl
  · obtain ⟨C, a, y, wd, m, Ls, RC, rfl, ru, hy⟩ := h
    obtain ⟨dx, fs, l, zs, h1, h2, h3, h4, h5, h6, h7⟩ := id ru
    refine ⟨_, pss_cons (ps_if (pt_not (pt_val (pe_callB call_isi (by rfl) T.isinstance rfl (pa_cons (pv 1) (pa_cons (pe_glob (v := .ref Cr) (by rfl) hC rfl) pa_nil))))) (pss_one (ps_ret pe_bl)) pss_nil)
      (pss_cons (ps_set (i := 2) sc_eqm.nd rfl (Or.inl rfl) (pe_tup (pa_cons (pe_fld (pv 0) rfl) (pa_cons (pe_fld (pv 0) rfl) (pa_cons (pe_fld (pv 0) rfl) pa_nil)))))
      (pss_one (ps_ret (pe_cmpR (op_eqD hr.units) (pv 2) (pe_tup (pa_cons (pe_fld (pv 1) rfl) (pa_cons (pe_fld (pv 1) rfl) (pa_cons (pe_fld (pv 1) rfl) pa_nil)))) (nomark _))))), ?_⟩
    rcases hy with ⟨C', b, wd', m', Ls', RC', rfl, ru', k⟩ | ⟨t, ht, hk, k⟩
    · obtain ⟨dx', fs', l', zs', g1, g2, g3, g4, g5, g6, g7⟩ := id ru'
      refine ⟨_, rfl, _, _, _, _, true, rfl, .own _, .base (.ins g1 RC'.cls RC'.ha KC.hn KC.htk RC'.hm), RC'.ki, true, rfl, ite_f rfl ?_⟩
      refine ⟨_, rfl, a, C, dx, fs, _, rfl, h1, RC.cls, RC.nS, h2, _, rfl, a, C, dx, fs, _, rfl, h1, RC.cls, RC.nM, h3, _, rfl, a, C, dx, fs, _, rfl, h1, RC.cls, RC.nR, h4, by show 3 ≤ sizeLine; decide, fun p hp => ?_⟩
      have s1 : Same H (upd H p (.tup [.int (wd : Int), .int (m : Int), .ref l])) := same_upd hp
      refine ⟨_, rfl, _, rfl, b, C', dx', fs', _, rfl, s1 _ _ g1, RC'.cls, RC'.nS, g2, _, rfl, b, C', dx', fs', _, rfl, s1 _ _ g1, RC'.cls, RC'.nM, g3, _, rfl, b, C', dx', fs', _, rfl, s1 _ _ g1, RC'.cls, RC'.nR, g4, by show 3 ≤ sizeLine; decide, fun q hq => ?_⟩
      have s2 := same_upd (o := .tup [.int (wd' : Int), .int (m' : Int), .ref l']) hq
      refine ⟨dR wd m Ls, dR wd' m' Ls', .tup (SqT.of (s2 _ _ upd_same)) (.cons (.int _) (.cons (.int _) (.cons (dp_list (SqL.of (s2 _ _ (s1 _ _ h5))) (pr_same h6 (s1.trans s2))) .nil))), .tup (SqT.of upd_same) (.cons (.int _) (.cons (.int _) (.cons (dp_list (SqL.of (s2 _ _ (s1 _ _ g5))) (pr_same g6 (s1.trans s2))) .nil))), shp_dR _ _ _, shp_dR _ _ _, ?_⟩
      rw [eqv_dR]
      exact k _ (s1.trans s2)
    · exact ⟨_, rfl, _, _, _, _, false, rfl, .own _, ht, hk, false, rfl, ite_t rfl k⟩
/-! Rule.__init__ -/
def spInit (Cr : Addr) : Sp := fun vs H Q _ => ∃ (C a dx : Addr) (p : Nat × Nat), RCls K Cr C ∧ vs = [.ref a, .int (p.1 : Int), .int (p.2 : Int)] ∧ p ∈ rules ∧ H a = some (.ins C dx []) ∧
  ∀ H' l xs, Kb a H H' → H l = none → H' a = some (.ins C dx [(("held_size" : Str), .int (p.1 : Int)), (("held_modulus" : Str), .int (p.2 : Int)), (("held_rests" : Str), .ref l)]) → H' l = some (.lst xs) → Paired (gT K H') xs (tab p.1 p.2) → Q .non H'
theorem sc_init : FnScope ["self", "size", "modulus"] ["self", "size", "modulus"] (defScope (mth 39 0)) := ⟨rfl, rfl, rfl, by decide +kernel, rfl, by decide +kernel, by decide +kernel⟩
theorem m_init {f : Addr} {fd : FuncData} (T : Tx K mg) (F : FunM K "__init__" "Rule.__init__" (mth 39 0) f fd) (C1 : Cal P w K mg base "want_rule" 3 ["size", "modulus"] spWantRule) (C2 : Cal P w K mg base "rests_by" 1 ["size", "modulus"] (spRestsBy (K := K))) : FnOk P w K mg base CX0 4 f fd ["self", "size", "modulus"] (spInit (K := K) Cr) := by
  refine F.ok sc_init (fun vs H Q E h => ?_) (fun cdv A outer s H vs Q E hr h => ?_)
  · obtain ⟨C, a, dx, p, _, rfl, _⟩ := h
    rfl
  · obtain ⟨C, a, dx, p, RC, rfl, hp, ha, k⟩ := h
    refine ⟨_, pss_cons (ps_expr (pe_cal C1 hr (pa_cons (pv 1) (pa_cons (pv 2) pa_nil)))) (pss_cons (ps_fld (pv 0) (pv 1) rfl) (pss_cons (ps_fld (pv 0) (pv 2) rfl) (pss_one (ps_fld (pv 0) (pe_callTy call_list_of (by rfl) T.list rfl (pa_cons (pe_cal C2 (hr.mono (by decide)) (pa_cons (pv 1) (pa_cons (pv 2) pa_nil))) pa_nil)) rfl)))), ?_⟩
    refine ⟨_, rfl, _, rfl, p, rfl, hp, fun H1 s1 => ?_⟩
    have a1 := s1 _ _ ha
    refine ⟨_, rfl, _, rfl, a, C, dx, [], rfl, a1, RC.cls, RC.nS, by decide, ?_⟩
    refine ⟨_, rfl, _, rfl, a, C, dx, _, rfl, upd_same, RC.cls, RC.nM, (show 1 < 1000 by decide), ?_⟩
    refine ⟨_, rfl, _, rfl, p, rfl, hp, fun H2 r s2 hR => ?_⟩
    obtain ⟨xs, hxs, pxs⟩ := hR
    refine ⟨r, xs, rfl, .inr (hxs _), fun l hl => ⟨_, rfl, a, C, dx, [(("held_size" : Str), .int (p.1 : Int)), (("held_modulus" : Str), .int (p.2 : Int))], rfl, ?_, RC.cls, RC.nR, (show 2 < 1000 by decide), ?_⟩⟩
    · exact (same_upd hl) _ _ (s2 _ _ upd_same)
    · have hla : l ≠ a := by
        rintro rfl
        have := s2 _ _ upd_same
        rw [hl] at this
        cases this
      have kbb := (((same_kb s1).trans Kb.upd).trans Kb.upd).trans (same_kb s2)
      have hln : H l = none := by
        cases e : H l with
        | none => rfl
        | some o =>
          have := kbb _ _ e hla
          rw [hl] at this
          cases this
      refine k _ l xs ?_ hln upd_same (by rw [upd_ne hla, upd_same]) (pxs _)
      exact ((((same_kb s1).trans Kb.upd).trans Kb.upd).trans (same_kb (s2.trans (same_upd hl)))).trans Kb.upd
end
end RM
/-! Rightmarks k40: TurnedRule.__init__, whose first statement is super().__init__(..). -/
namespace RM
open PySem PySem.Spec PyProof.Rows L2
def sS : Scope := defScope (mth 40 0)
def bS : List Stmt := defBody (mth 40 0)
def aS : Arguments := defArgs (mth 40 0)
def psS : List Str := ["self", "size", "modulus", "order"]
def nS : List Str := ["self", "size", "modulus", "order", "rest"]
abbrev cS (L cc : Addr) : List (Str × Addr) := [("order", L + 2), ("modulus", L + 1), ("__class__", cc)]
abbrev eS (L f cda cc : Addr) : Env := PySem.W.envX "TurnedRule.__init__" sS L f (.ref cda) (cS L cc)
/-- the def as it stands -/
structure FunS (K : PySem.W.Frag) (f : Addr) (fd : FuncData) (cc cda : Addr) : Prop where
  ex : ∃ (oc : Value) (od : Option Addr) (kV doc pm : Value) (an : Option Addr) (ct : Value) (osl : Array (Option Value)),
    fd = PySem.W.fnX "__init__" "TurnedRule.__init__" aS bS sS [("__class__", cc)] .none kV doc pm an (.ref cda) ct ∧ K.lookup f = some ⟨oc, od, .func fd, osl⟩
  cd : PySem.W.codeIn K (.ref cda) "TurnedRule.__init__" = true
/-- what super() finds -/
structure SupK (P : Program) (K : PySem.W.Frag) (cc cda Ct f2 : Addr) : Prop where
  code : ∃ ccl cdd vs ccs file tf, K.lookup cda = some ⟨ccl, cdd, .fields vs, ccs⟩ ∧ vs[2]? = some (.str file tf) ∧ ((P.main.file : Str) == file) = true
  cell : ∃ cl cld csl, K.lookup cc = some ⟨cl, cld, .cell (some (.ref Ct)), csl⟩
  cls : ∃ cd, PySem.W.clsIn K Ct = some cd
  sub : PySem.W.mroIn K Ct (.ref Ct) = some true
  opq : PySem.W.nsIn K cStatics "thirdparty.any" = some none
  top : (P.main.scope.names.lookup ("super" : Str)).isSome = false
  hm : PySem.W.ks_superIn K Ct Ct "__init__" = some (some (.ref f2))
  ty : PySem.W.typeIn K (.ref f2) = some (.type "function")
  fi : PySem.W.fnIn K f2 = true
section
variable {M : Model} {A : Around} {E : Value → Shared → Prop} {s : Shared}
theorem forIn_eq {f g : Str × Value → PUnit → Sem (ForInStep PUnit)} : ∀ (l : List (Str × Value)), (∀ x ∈ l, ∀ u, f x u = g x u) → (forIn l ⟨⟩ f : Sem PUnit) = forIn l ⟨⟩ g
  | [], _ => rfl
  | x :: l, h => by
    rw [List.forIn_cons, List.forIn_cons, h x (List.mem_cons_self ..)]
    congr 1
    funext r
    cases r with
    | done b => rfl
    | yield b => exact forIn_eq l fun y m => h y (List.mem_cons_of_mem _ m)
theorem store_eq {L f cda cc : Addr} {n : Str} {v : Value} (h : n = "self" ∨ n = "size" ∨ n = "modulus" ∨ n = "order") : storeName (eS L f cda cc) n v = storeName (envOfC "TurnedRule.__init__" sS L f (.ref cda)) n v := by
  rcases h with rfl | rfl | rfl | rfl <;> rfl
theorem newEnv_super {f cda cc : Addr} {u0 u1 u2 u3 : Value} {Q : Env → Shared → Prop}
    (hQ : ∀ s', InCallC s s.heap.objs.size (bindL (envOfC "TurnedRule.__init__" sS s.heap.objs.size f (.ref cda)).kindOf (psS.zip [u0, u1, u2, u3]) fun _ => none) (cellsFrom (s.heap.objs.size + 1) sS.names []) (bindC (envOfC "TurnedRule.__init__" sS s.heap.objs.size f (.ref cda)).kindOf (psS.zip [u0, u1, u2, u3]) fun _ => none) s' → Q (eS s.heap.objs.size f cda cc) s') :
    wpAny M A (newFunctionEnv sS mainGlobals [("__class__", cc)] (psS.zip [u0, u1, u2, u3]) ("TurnedRule.__init__" ++ ".<locals>.") (some f) (.ref cda) none builtinsNs) Q E s := by
  simp only [newFunctionEnv, Option.isSome_none, Bool.false_eq_true, if_false]
  refine wpAny_bind (wpAny_alloc ?_)
  refine wpAny_bind (wpAny_layCells _ (fun name kind cells => by cases hkc : kind == NameKind.cell <;> simp [hkc]) _ _ _ _ ?_)
  have ok := cellsFrom_ok sS.names (s.heap.push { cls := .type "frame", data := .dict #[] }) (s.heap.objs.size + 1) [] ⟨fun _ _ hm => (nomatch hm), List.Pairwise.nil⟩ (by rw [Heap.size_push]; exact Nat.le_refl _)
  rw [Heap.size_push] at ok
  rw [show ({ s with heap := s.heap.push { cls := .type "frame", data := .dict #[] } } : Shared).heap.objs.size = s.heap.objs.size + 1 from Heap.size_push ..]
  have base : InCallC s s.heap.objs.size (fun _ => none) (cellsFrom (s.heap.objs.size + 1) sS.names []) (fun _ => none) { s with heap := pushCells (s.heap.push { cls := .type "frame", data := .dict #[] }) sS.names } :=
    ⟨⟨⟨_, _, rfl⟩, (Heap.Ns.new s.heap (.type "frame")).keeps (pushCells_keeps _ _), fun b o e => pushCells_keeps _ _ b o (Heap.get?_push_of_some _ e), Nat.le_refl _⟩,
      fun n c hc => (ok.empty n c (mem_of_lookup hc)).1, ok.apart, fun n c hm => (ok.empty n c hm).2⟩
  refine wpAny_bind ?_
  rw [forIn_eq (g := fun x _ => do storeName (envOfC "TurnedRule.__init__" sS s.heap.objs.size f (.ref cda)) x.1 x.2; pure (.yield ⟨⟩)) (psS.zip [u0, u1, u2, u3]) ?_]
  · refine wpAny_bindParams (s₀ := s) (env := envOfC "TurnedRule.__init__" sS s.heap.objs.size f (.ref cda)) (fun x _ => do storeName (envOfC "TurnedRule.__init__" sS s.heap.objs.size f (.ref cda)) x.1 x.2; pure (.yield ⟨⟩)) (fun _ _ _ => rfl) rfl (psS.zip [u0, u1, u2, u3]) (fun _ => none) (fun _ => none) _ _ base ?_ ?_
    · intro x hx
      have hx' : x = (("self" : Str), u0) ∨ x = (("size" : Str), u1) ∨ x = (("modulus" : Str), u2) ∨ x = (("order" : Str), u3) := by simpa [psS] using hx
      rcases hx' with rfl | rfl | rfl | rfl
      · exact .inl rfl
      · exact .inl rfl
      · exact .inr ⟨rfl, rfl⟩
      · exact .inr ⟨rfl, rfl⟩
    · intro s' x
      exact wpAny_pure (hQ s' x)
  · intro x hx u
    have hx' : x = (("self" : Str), u0) ∨ x = (("size" : Str), u1) ∨ x = (("modulus" : Str), u2) ∨ x = (("order" : Str), u3) := by simpa [psS] using hx
    rcases hx' with rfl | rfl | rfl | rfl <;> rfl
end
/-- the context of the body -/
def cxS (P : Program) (w : World) (K : PySem.W.Frag) (mg : Str → Option Value) (base : Heap) (f cda cc : Addr) (A : Around) (outer : List Env) (s : Shared) (H : Hp) (E : XK) : Cx where
  prog := P
  w := w
  K := K
  mg := mg
  base := base
  A := A.deeper (eS s.heap.objs.size f cda cc)
  N := nS
  s_0 := s
  H_0 := H
  env := eS s.heap.objs.size f cda cc
  outer := outer
  stack := eS s.heap.objs.size f cda cc :: outer
  ex := []
  calm := true
  fn := fun x => !(x == ("__class__" : Str))
  pn := []
  xe := fun e s' => wpAny (model P w) (A.deeper (eS s.heap.objs.size f cda cc)) (leaving (eS s.heap.objs.size f cda cc) e) (fun _ s'' => CX0 outer H s E e s'') (fun e' s'' => CX0 outer H s E e' s'') s'
theorem cS_look {L cc c : Addr} {y : Str} (h : (cS L cc).lookup y = some c) : (y = ("order" : Str) ∧ c = L + 2) ∨ (y = ("modulus" : Str) ∧ c = L + 1) ∨ (y = ("__class__" : Str) ∧ c = cc) := by
  have m := mem_of_lookup h
  simpa [cS] using m
section
variable {P : Program} {w : World} {K : PySem.W.Frag} {mg : Str → Option Value} {base : Heap} {f cda cc : Addr} {A : Around} {outer : List Env} {s s1 : Shared} {H : Hp} {E : XK} {v0 v1 v2 v3 : V} {u0 u1 u2 u3 : Value}
theorem inv_startS {oc : Obj} {wc : Value} (hd : A.handled = none) (e0 : Env0 P w K mg base A outer s H) (hcc : base.get? cc = some oc) (hcd : oc.data = .cell (some wc)) (r : Vals [v0, v1, v2, v3] [u0, u1, u2, u3])
    (x : InCallC s s.heap.objs.size (bindL (envOfC "TurnedRule.__init__" sS s.heap.objs.size f (.ref cda)).kindOf (psS.zip [u0, u1, u2, u3]) fun _ => none) (cellsFrom (s.heap.objs.size + 1) sS.names []) (bindC (envOfC "TurnedRule.__init__" sS s.heap.objs.size f (.ref cda)).kindOf (psS.zip [u0, u1, u2, u3]) fun _ => none) s1) :
    Inv (cxS P w K mg base f cda cc A outer s H E) [] [some v0, some v1, some v2, some v3, none] H s1 := by
  obtain ⟨h1, tk, rfl, hk⟩ := x.done
  have noA : ∀ b : Addr, b ∉ (cxS P w K mg base f cda cc A outer s H E).ex := fun b z => absurd (show b ∈ ([] : List Addr) from z) (by simp)
  obtain ⟨bc1, bc2⟩ := e0.bs _ _ hcc
  have lcc : cc < s.heap.objs.size := Heap.lt_size bc1
  have ap1 : s.heap.objs.size + 2 ≠ s.heap.objs.size + 1 := fun q => absurd q (by omega)
  have ap2 : s.heap.objs.size + 2 ≠ cc := fun q => Nat.lt_irrefl s.heap.objs.size (Nat.lt_of_le_of_lt (Nat.le_add_right _ 2) (show s.heap.objs.size + 2 < s.heap.objs.size from q ▸ lcc))
  have ap3 : s.heap.objs.size + 1 ≠ cc := fun q => Nat.lt_irrefl s.heap.objs.size (Nat.lt_of_le_of_lt (Nat.le_add_right _ 1) (show s.heap.objs.size + 1 < s.heap.objs.size from q ▸ lcc))
  have cell0 : ∀ y c, (cellsFrom (s.heap.objs.size + 1) sS.names []).lookup y = some c → h1.IsCell c ((bindC (envOfC "TurnedRule.__init__" sS s.heap.objs.size f (.ref cda)).kindOf (psS.zip [u0, u1, u2, u3]) fun _ => none) y) := x.cell
  have cO := cell0 "order" (s.heap.objs.size + 2) rfl
  have cM := cell0 "modulus" (s.heap.objs.size + 1) rfl
  cases r with
  | cons r0 r => cases r with
    | cons r1 r => cases r with
      | cons r2 r => cases r with
        | cons r3 r =>
          refine ⟨⟨e0.mod, rfl, rfl, rfl, Nat.le_refl _, fun y z c h1 h2 => ?_, fun y hy => ?_, fun y c hf h => ?_, fun _ => hd, Around.frames_deeper e0.frames, .inr ⟨rfl, rfl⟩, fun b z => absurd z (noA b), e0.bs, e0.bsz, fun b _ _ => noA b, fun b z => absurd z (noA b), e0.funs, e0.frf⟩,
            rfl, e0.bare, Un.kept hk, ⟨_, x.toInCall.ns, fun i y v h1 h2 h3 => ?_⟩, fun y c h => ?_, e0.hok.fresh (Nat.le_refl _), fun y c h => ?_, fun p hp => absurd (show p ∈ ([] : List (Addr × Obj)) from hp) (by simp), e0.hok.kept hk, rfl⟩
          · rcases cS_look (L := s.heap.objs.size) (cc := cc) h1 with ⟨a1, b1⟩ | ⟨a1, b1⟩ | ⟨a1, b1⟩ <;> rcases cS_look (L := s.heap.objs.size) (cc := cc) h2 with ⟨a2, b2⟩ | ⟨a2, b2⟩ | ⟨a2, b2⟩ <;> first | (exact a1.trans a2.symm) | (exact (ap1 (b1.symm.trans b2)).elim) | (exact (ap1 (b2.symm.trans b1)).elim) | (exact (ap2 (b1.symm.trans b2)).elim) | (exact (ap2 (b2.symm.trans b1)).elim) | (exact (ap3 (b1.symm.trans b2)).elim) | (exact (ap3 (b2.symm.trans b1)).elim)
          · have hy : sS.names.lookup y = some .cell ∨ sS.names.lookup y = some .free := hy
            have m : (y, NameKind.cell) ∈ sS.names ∨ (y, NameKind.free) ∈ sS.names := hy.imp mem_of_lookup mem_of_lookup
            have hm : y = ("modulus" : Str) ∨ y = ("order" : Str) ∨ y = ("__class__" : Str) := by
              have all : ∀ q ∈ sS.names, q.2 = .cell ∨ q.2 = .free → q.1 = ("modulus" : Str) ∨ q.1 = ("order" : Str) ∨ q.1 = ("__class__" : Str) := by decide +kernel
              rcases m with m | m
              · exact all _ m (.inl rfl)
              · exact all _ m (.inr rfl)
            rcases hm with rfl | rfl | rfl
            · exact ⟨_, rfl⟩
            · exact ⟨_, rfl⟩
            · exact ⟨_, rfl⟩
          · have hf : (!(y == ("__class__" : Str))) = true := hf
            rcases cS_look (L := s.heap.objs.size) (cc := cc) h with ⟨a1, b1⟩ | ⟨a1, b1⟩ | ⟨a1, b1⟩
            · show s.heap.objs.size ≤ c; rw [b1]; exact Nat.le_add_right _ _
            · show s.heap.objs.size ≤ c; rw [b1]; exact Nat.le_add_right _ _
            · rw [a1] at hf; exact absurd hf (by decide)
          · match i, h1, h2 with
            | 0, h1, h2 =>
              obtain rfl : _ = y := Option.some.inj h1
              obtain rfl : v0 = v := Option.some.inj (Option.some.inj h2)
              exact ⟨u0, r0, .inl ⟨rfl, rfl⟩⟩
            | 1, h1, h2 =>
              obtain rfl : _ = y := Option.some.inj h1
              obtain rfl : v1 = v := Option.some.inj (Option.some.inj h2)
              exact ⟨u1, r1, .inl ⟨rfl, rfl⟩⟩
            | 2, h1, h2 =>
              obtain rfl : _ = y := Option.some.inj h1
              obtain rfl : v2 = v := Option.some.inj (Option.some.inj h2)
              exact ⟨u2, r2, .inr ⟨.inl rfl, _, rfl, cM⟩⟩
            | 3, h1, h2 =>
              obtain rfl : _ = y := Option.some.inj h1
              obtain rfl : v3 = v := Option.some.inj (Option.some.inj h2)
              exact ⟨u3, r3, .inr ⟨.inl rfl, _, rfl, cO⟩⟩
            | 4, h1, h2 => exact absurd h2 (by simp)
            | i + 5, h1, h2 => exact absurd h2 (by simp)
          · rcases cS_look (L := s.heap.objs.size) (cc := cc) h with ⟨a1, b1⟩ | ⟨a1, b1⟩ | ⟨a1, b1⟩
            · rw [b1]; exact ⟨_, cO⟩
            · rw [b1]; exact ⟨_, cM⟩
            · rw [b1]; exact ⟨_, oc, hk _ _ bc1, hcd⟩
          · rcases cS_look (L := s.heap.objs.size) (cc := cc) h with ⟨a1, b1⟩ | ⟨a1, b1⟩ | ⟨a1, b1⟩
            · rw [b1]; exact e0.hok.fresh (by omega)
            · rw [b1]; exact e0.hok.fresh (by omega)
            · rw [b1]; exact bc2
/-- the call of super, at the top of the body -/
theorem super_run {X : Cx} {Ct f2 a dx : Addr} {fd2 : FuncData} {fd : FuncData} {k : Nat} {sp : Sp} {σ : L2.St} {H : Hp} {s : Shared} {Q : VK} {body : List Stmt} {L : Addr} {e1 e2 : Expr} {t : TA} {p0 p1 apos pos : Pos} {ps : List Str} {fs : List (Str × V)} {R : Value → Shared → Prop}
    (FS : FunS X.K f fd cc cda) (SK : SupK X.prog X.K cc cda Ct f2) (he : X.env = eS L f cda cc) (hN : X.N = nS) (F : FnOk X.prog X.w X.K X.mg X.base CX0 k f2 fd2 ps sp) (hb : Binds X.K fd2 ps []) (hr : Room k X.A) (hsu : X.mg "super" = none)
    (I : Inv X [] σ H s) (h0 : σ[0]? = some (some (.ref a))) (hi : H a = some (.ins Ct dx fs)) (ha : PA X [e1, e2] t) (q : t σ H fun vs H1 => sp (.ref a :: vs) H1 Q E0)
    (hst : starEach [e1, e2] X.env = (false, eval e1 X.env) :: starEach [e2] X.env) (hpl : (backTo pos (starEach [e2] X.env)).any (·.1) = false) (hR : ∀ v s', EP X [] σ Q v s' → R v s') {pl : Sem Bool}
    (ht : eval (.Call (.Attribute (.Call (.Name "super" p0) [] [] p1) "__init__" apos) [e1, e2] [] pos) (eS L f cda cc) = (do
      let ov ← attributeBase (.Call (.Name "super" p0) [] [] p1) "__init__" (eS L f cda cc) (eval (.Call (.Name "super" p0) [] [] p1) (eS L f cda cc))
      standAt apos.atName
      let (g, first) ← holding [ov] (getMethod ov "__init__" pl)
      callWith pos g first (backTo pos (starEach [e1, e2] (eS L f cda cc))) [])) :
    _root_.PySem.wpAt (model X.prog X.w) X.A (.func body (eS L f cda cc)) (eval (.Call (.Attribute (.Call (.Name "super" p0) [] [] p1) "__init__" apos) [e1, e2] [] pos) (eS L f cda cc)) R X.xe s := by
  obtain ⟨oc, od, kV, doc, pm, an, ct, osl, rfl, lk⟩ := FS.ex
  obtain ⟨ccl, cdd, vs, ccs, file, tf, k1, k2, k3⟩ := SK.code
  obtain ⟨cl, cld, csl, kc⟩ := SK.cell
  obtain ⟨cdD, hD⟩ := SK.cls
  have XK : X.K.In s.heap := I.kIn
  obtain ⟨ox, odx, J, hJ⟩ := ins_at I hi
  obtain ⟨oD, hD1, hD2⟩ : ∃ oD, s.heap.get? Ct = some oD ∧ oD.data = .cls cdD := by
    unfold PySem.W.clsIn at hD
    split at hD
    · rename_i c d cd' sl ho
      cases hD
      exact ⟨_, XK _ _ ho, rfl⟩
    · cases hD
  obtain ⟨mb, h1, h2⟩ := I.mod.blt
  obtain ⟨mL, hns, hloc⟩ := I.loc
  have hself : mL "self" = some (.ref a) := by
    obtain ⟨u, ru, lo⟩ := hloc 0 "self" (.ref a) (by rw [hN]; rfl) h0 (by rw [he]; exact .inl rfl)
    cases ru
    rcases lo with ⟨_, e⟩ | ⟨e, _⟩
    · exact e
    · rw [he] at e
      rcases e with e | e
      · have z := e.symm.trans (rfl : (eS L f cda cc).kindOf "self" = some .local)
        cases z
      · have z := e.symm.trans (rfl : (eS L f cda cc).kindOf "self" = some .local)
        cases z
  refine ks_wpAt_MethodCall (pl := pl) ?_ ht
  refine ks_wpAt_super_base (env := eS L f cda cc) rfl rfl rfl rfl (XK _ _ lk) rfl rfl rfl (XK _ _ k1) rfl k2 k3 SK.top ?_
  refine PySem.W.ks_loadName_global rfl rfl (Calls.loadGlobal_builtin (env := eS L f cda cc) (I.mod.glob.keeps I.bk) hsu (h1.keeps I.bk) ((h2 _ (by decide +kernel)).trans rfl) ⟨rfl, ?_⟩)
  refine wpAny_loadName_free rfl rfl rfl ⟨_, XK _ _ kc, rfl⟩ ?_
  refine wpAny_loadName_local rfl rfl (by rw [he] at hns; exact hns) hself ?_
  refine ks_wpAny_isType_cls hD1 hD2 ⟨rfl, ?_⟩
  obtain ⟨hh, g, d, tk, os⟩ := s
  refine ks_wpAny_call_super hD1 hD2 J.at_ J.cls (fun c e => ?_) (PySem.W.looks_mroIn XK SK.sub) (fun h' e kk => ?_)
  · rw [hJ] at e
    cases e
  · have I2 : Inv X [] σ H { heap := h', gens := g, drawn := d, toks := tk, os := os } := I.kept (t' := tk) kk
    obtain ⟨ox2, odx2, J2, _⟩ := ins_at I2 hi
    have XK2 : X.K.In h' := I2.kIn
    have hm := SK.hm
    unfold PySem.W.ks_superIn at hm
    rw [hD] at hm
    obtain ⟨of, hof, hofc⟩ : ∃ of, h'.get? f2 = some of ∧ of.cls = .type "function" := by
      have ht' : (X.K.lookup f2).map (·.cls) = some (.type "function") := SK.ty
      cases z : X.K.lookup f2 with
      | none => rw [z] at ht'; cases ht'
      | some of => rw [z] at ht'; exact ⟨of, XK2 _ _ z, Option.some.inj ht'⟩
    refine ks_wpAny_getMethod_super e (PySem.W.looks_opaque XK2 SK.opq) (l₀ := cdD.mro) ?_ rfl XK2 hm hof hofc (PySem.W.ks_ne XK2 J2 hD) rfl ?_
    · exact fun A Q E s k q => wpAny_bind ((PySem.W.looks_clsIn XK2 hD) A _ E s k (wpAny_pure q))
    · have I3 : Inv X ((h'.objs.size, PySem.W.methodObj (.ref f2) (.ref a)) :: []) σ H { heap := h'.push (PySem.W.methodObj (.ref f2) (.ref a)), gens := g, drawn := d, toks := tk + 1, os := os } := ClX.met_new I2
      have hA := ha.run pos _ _ σ H _ I3 q
      have hst' := hst
      have hpl' := hpl
      have fin := ClX.callwith_cm (e := e1) (es := [e2]) (pos := pos) I3 (ClX.base_none I2 (Nat.le_refl _)) SK.fi (thn hA fun us s3 ⟨vs, H2, I4, rv, q2⟩ => ⟨⟨ClX.pin_at I4, I4.kIn⟩, thn (ClX.run_cm (FnOk.raw F hb .nil) hr pass0 I4 rv (by rw [List.append_nil]; exact q2)) hR⟩) hst hpl
      rw [he] at fin
      exact fin
end
end RM
namespace RM
open PySem PySem.Spec PyProof.Rows L2
theorem nd_nS : nS.Nodup := by decide +kernel
theorem moved_eq (p : Nat × Nat) (t : List Nat) : moved p.1 p.2 t = sd ((tab p.1 p.2).map fun r => canon p.2 (placeP t r)) := rfl
section
variable {P : Program} {w : World} {K : PySem.W.Frag} {mg : Str → Option Value} {base : Heap} {Cr Ct : Addr}
def fsT (p : Nat × Nat) (l : Addr) (v : V) : List (Str × V) := [(("held_size" : Str), .int (p.1 : Int)), (("held_modulus" : Str), .int (p.2 : Int)), (("held_rests" : Str), .ref l), (("held_order" : Str), v)]
def spTInit (Ct : Addr) : Sp := fun vs H Q _ => ∃ (a dx : Addr) (p : Nat × Nat) (v : V) (t : List Nat), vs = [.ref a, .int (p.1 : Int), .int (p.2 : Int), v] ∧ p ∈ rules ∧ OrdT H v t ∧ t ∈ permsOf p.1 ∧ H a = some (.ins Ct dx []) ∧
  ∀ H' l xs, Kb a H H' → H l = none → H' a = some (.ins Ct dx (fsT p l v)) → H' l = some (.lst xs) → Paired (gT K H') xs (moved p.1 p.2 t) → Q .non H'
def rS : List Stmt := bS.tail
theorem m_tinit {f f2 cc cda : Addr} {fd fd2 : FuncData} (T : Tx K mg) (RC : RCls K Cr Ct) (FS : FunS K f fd cc cda) (SK : SupK P K cc cda Ct f2) (hcc : ∃ oc wc, base.get? cc = some oc ∧ oc.data = .cell (some wc))
    (F2 : FnOk P w K mg base CX0 4 f2 fd2 ["self", "size", "modulus"] (spInit (K := K) Cr)) (b2 : Binds K fd2 ["self", "size", "modulus"] [])
    (CW : CalD P w K mg base "want" 1 ["is_right", "name", "place"] (.int (-1)) spWant) (C1 : Cal P w K mg base "is_order" 2 ["size", "thing"] (spIsOrder (K := K)))
    (C2 : Cal P w K mg base "rest_turned" 2 ["modulus", "rest", "order"] (spRestTurned (K := K))) (C3 : Cal P w K mg base "rests_by" 1 ["size", "modulus"] (spRestsBy (K := K))) :
    FnOk P w K mg base CX0 5 f fd psS (spTInit (K := K) Ct) := by
  refine ⟨fun vs H Q E h => by obtain ⟨a, dx, p, v, t, rfl, _⟩ := h; rfl, fun A outer s H args us vs Q E hr e0 hb r hsp => ?_⟩
  obtain ⟨a, dx, p, v, t, rfl, hp, ho, ht, ha, k⟩ := hsp
  obtain ⟨oc, od, kV, doc, pm, an, ct, osl, rfl, lk⟩ := id FS.ex
  obtain ⟨occ, wc, hcc1, hcc2⟩ := hcc
  obtain ⟨u0, u1, u2, u3, rfl⟩ : ∃ u0 u1 u2 u3, us = [u0, u1, u2, u3] := by
    cases r with
    | cons r0 r => cases r with
      | cons r1 r => cases r with
        | cons r2 r => cases r with
          | cons r3 r => cases r; exact ⟨_, _, _, _, rfl⟩
  have KX : K.In s.heap := e0.mod.kin.keeps fun b o e => (e0.bs b o e).1
  have lim : s.heap.NoLimit := e0.mod.nolimit.keeps fun b o e => (e0.bs b o e).1
  refine codeAny_call_function hr.depth (KX _ _ lk) rfl rfl rfl rfl (PySem.W.codeRec_of KX FS.cd) (hb _ _ _ _ ?_)
  refine newEnv_super fun s1 x => ⟨lim.keeps x.toInCall.keep, ks_codeAny_funcAt ?_⟩
  have I := inv_startS (w := w) (E := E) (cda := cda) (f := f) hr.hd e0 hcc1 hcc2 r x
  have hr4 : Room 4 (A.deeper (eS s.heap.objs.size f cda cc)) := hr.deeper _
  obtain ⟨tl8, trl⟩ := tab_len p hp
  obtain ⟨p3, p5, m2, m4⟩ := rule_small hp
  have O := ord_of hp ht
  refine ks_wpAt_execs_cons (st := bS.head (by decide)) (rest := rS) (ks_wpAt_Expr_any (super_run (X := cxS P w K mg base f cda cc A outer s H E) (Q := fun _ H2 => ∃ l, Kb a H H2 ∧ H2 a = some (.ins Ct dx [(("held_size" : Str), .int (p.1 : Int)), (("held_modulus" : Str), .int (p.2 : Int)), (("held_rests" : Str), .ref l)])) FS SK rfl rfl F2 b2 hr4 T.super I rfl ha (pa_cons (pv 1) (pa_cons (pv 2) pa_nil)) ?_ rfl rfl ?_ rfl))
  · exact ⟨_, rfl, _, rfl, Ct, a, dx, p, RC, rfl, hp, ha, fun H2 l xs kb _ h2 h3 h4 => ⟨l, kb, h2⟩⟩
  rintro v1 s2 ⟨z, H2, I2, rz, l0, kb2, ha2⟩
  refine wpAt_of_wpAny ?_
  have ho2 : OrdT H2 v t := ordT_kb ho kb2 ha (fun _ _ z => HO.noConfusion z)
  have rest : ∃ tr, PSs (cxS P w K mg base f cda cc A outer s H E) rS tr ∧ tr { nx := fun _ H' => Q .non H', rt := Q } [some (.ref a), some (.int (p.1 : Int)), some (.int (p.2 : Int)), some v, none] H2 := by
    refine ⟨_, pss_cons (ps_expr (pe_want CW (hr4.mono (by decide)) (pe_cal C1 (hr4.mono (by decide)) (pa_cons (pv 1) (pa_cons (pv 3) pa_nil))) pe_str (by rfl)))
      (pss_cons (ps_fld (pv 0) (pv 3) rfl)
      (pss_one (ps_fld (pv 0) (pe_callB (cr_sortedT rfl) (by rfl) T.sorted rfl (pa_cons (pe_callTy (cr_setOfT rfl hr4.units) (by rfl) T.set rfl (pa_cons (pe_lc (own := [("rest", 4)]) (g := gName 4) (tt := tYes) (te := tCall (spRestTurned (K := K)) [] E0 (tCons (tVar 2) (tCons (tVar 4) (tCons (tVar 3) tNil)))) rfl nd_nS (pi_tup (pe_cal C3 (hr4.mono (by decide)) (pa_cons (pv 1) (pa_cons (pv 2) pa_nil)))) (blkOk_by (N := nS) (sc := sS) (by decide +kernel)) (fun _ _ _ _ _ => pg_name (i := 4) nd_nS rfl (Or.inl rfl)) (fun _ _ _ _ _ => pts_nil)
        (fun _ _ _ _ _ => pe_cal C2 (by exact hr4.mono (by decide)) (pa_cons (pv 2) (pa_cons (pv 4) (pa_cons (pv 3) pa_nil))))) pa_nil)) pa_nil)) rfl))), ?_⟩
    refine ⟨_, rfl, _, rfl, p.1, v, t, rfl, ordT_tup ho2, O, p5, fun H3 s3 => ⟨_, _, rfl, ?_⟩⟩
    have ha3 := s3 _ _ ha2
    have ho3 := ordT_same ho2 s3
    refine ⟨_, rfl, _, rfl, a, Ct, dx, _, rfl, ha3, RC.cls, RC.nO, (show 3 < 1000 by decide), ?_⟩
    have ha4 : upd H3 a (.ins Ct dx (putF "held_order" v [(("held_size" : Str), .int (p.1 : Int)), (("held_modulus" : Str), .int (p.2 : Int)), (("held_rests" : Str), .ref l0)])) a = some (.ins Ct dx (fsT p l0 v)) := upd_same
    have ho4 : OrdT (upd H3 a (.ins Ct dx (putF "held_order" v [(("held_size" : Str), .int (p.1 : Int)), (("held_modulus" : Str), .int (p.2 : Int)), (("held_rests" : Str), .ref l0)]))) v t := ordT_kb ho3 Kb.upd ha3 (fun _ _ z => HO.noConfusion z)
    have kb4 : Kb a H (upd H3 a (.ins Ct dx (putF "held_order" v [(("held_size" : Str), .int (p.1 : Int)), (("held_modulus" : Str), .int (p.2 : Int)), (("held_rests" : Str), .ref l0)]))) := (kb2.trans (same_kb s3)).trans Kb.upd
    generalize upd H3 a (.ins Ct dx (putF "held_order" v [(("held_size" : Str), .int (p.1 : Int)), (("held_modulus" : Str), .int (p.2 : Int)), (("held_rests" : Str), .ref l0)])) = H4 at ha4 ho4 kb4
    refine ⟨_, rfl, _, rfl, p, rfl, hp, fun H5 r s5 hR => ?_⟩
    obtain ⟨xs, hxs, pxs⟩ := hR
    have hzz : (tab p.1 p.2).length ≤ sizeLine := by rw [sizeLine_eq]; omega
    refine ⟨r, rfl, ⟨_, hxs _⟩, fun D hD => lcTu (R := gT K H5) (bs := tab p.1 p.2) (G := gT K) (pxs H5) (hxs _) hD hzz stbT (p := fun _ => true) (f := fun q => canon (p.2 : Int) (placeP t q)) (lcT_yes fun _ => rfl) ?_ ?_⟩
    · rintro y q hq hy _ H6 s6 Q2 q2
      refine ⟨_, rfl, _, rfl, _, rfl, y, v, q, t, p.2, rfl, tupI_same hy s6, ordT_same (ordT_same ho4 s5) s6, by rw [trl q hq]; exact O, by rw [trl q hq]; exact p5, by omega, fun H7 z s7 hz => q2 H7 z s7 hz⟩
    · intro H6 ys s6 hd6 pr6
      rw [filter_true] at pr6
      obtain ⟨ks, e1, e2, e3⟩ := pr_addr pr6
      subst e1
      have hks : ks.length ≤ 8 := by
        have := congrArg List.length e3
        rw [List.length_map, List.length_map] at this
        omega
      have hB : ∀ x ∈ (tab p.1 p.2).map (fun r => canon (p.2 : Int) (placeP t r)), x.length = p.1 ∧ TS.Bd (p.2 : Int) x := by
        intro x hx
        obtain ⟨r, hr3, rfl⟩ := List.mem_map.mp hx
        refine ⟨?_, canon_bd (by omega) _⟩
        rw [canon_length]
        unfold placeP
        rw [List.length_map, List.length_range, trl r hr3]
      refine ⟨D, ks, rfl, SqL.of hd6, e2, by omega, fun S L1 hS h1 h2 => ?_⟩
      refine ⟨S, L1, p.1, (p.2 : Int), rfl, upd_same, fun q hq1 => (e2 q (h1 q hq1)).ext (same_upd hS), by omega, fun q hq1 => hB _ ?_, fun L2 q perm nd l64 pw hq1 => ?_⟩
      · rw [← e3]
        exact List.mem_map.mpr ⟨q, h1 q hq1, rfl⟩
      · have sS : Same H6 (upd H6 S (SetTO P w S L1)) := same_upd hS
        have sQ := sS.trans (same_upd (o := .lst (L2.map fun q => V.ref q.1)) hq1)
        have sA := (s5.trans s6).trans sQ
        have ha7 := sA _ _ ha4
        refine ⟨_, rfl, a, Ct, dx, fsT p l0 v, rfl, ha7, RC.cls, RC.nR, (show 4 < 1000 by decide), ?_⟩
        have nqa : q ≠ a := by
          rintro rfl
          have := upd_same (H := upd H6 S (SetTO P w S L1)) (a := q) (o := .lst (L2.map fun q => V.ref q.1))
          rw [ha7] at this
          cases this
        have kbb := kb4.trans (same_kb ((s5.trans s6).trans sS))
        have hln : H q = none := by
          cases e : H q with
          | none => rfl
          | some o =>
            have := kbb _ _ e nqa
            cases (show none = some o from hq1.symm.trans this)
        refine k _ q _ ((kb4.trans (same_kb sA)).trans Kb.upd) hln upd_same (by rw [upd_ne nqa]; exact upd_same) ?_
        have em : L2.map (·.2) = moved p.1 p.2 t := by
          refine sd_of (B := (p.2 : Int)) (d := p.1) (List.pairwise_map.mpr pw) nd hB fun x => ?_
          constructor
          · intro hx
            obtain ⟨q1, m1, rfl⟩ := List.mem_map.mp hx
            rw [← e3]
            exact List.mem_map.mpr ⟨q1, h1 _ (perm.mem_iff.mp m1), rfl⟩
          · intro hx
            rw [← e3] at hx
            obtain ⟨q1, m1, rfl⟩ := List.mem_map.mp hx
            obtain ⟨q2, m2, e4⟩ := List.mem_map.mp (h2 q1 m1)
            rw [← e4]
            exact List.mem_map.mpr ⟨q2, perm.mem_iff.mpr m2, rfl⟩
        rw [← em]
        refine pr_ext (pr_back L2 fun q1 m1 => (e2 q1 (h1 _ (perm.mem_iff.mp m1))).ext sQ) fun x y _ g => tupI_keep g Kb.upd ha7 (fun _ z => HO.noConfusion z) (fun _ _ z => HO.noConfusion z)
  obtain ⟨tr, htr, hq⟩ := rest
  refine wpAny_mono (htr.run [] s2 _ _ _ I2 hq) (fun fl s' hs => ?_) fun e s' hs => hs
  have fin : ∀ {σ' : L2.St} {H' : Hp} {v : V} {u : Value}, Inv (cxS P w K mg base f cda cc A outer s H E) [] σ' H' s' → RelV v u → Q v H' → CE outer P w H s Q u s' :=
    fun {σ' H' v u} J rv q => ⟨v, H', J.os, J.bare, J.base, J.hok, rv, q⟩
  cases fl with
  | ret u =>
    obtain ⟨v, σ', H', J, rv, q⟩ := hs
    exact fin J rv q
  | next =>
    obtain ⟨σ', H', J, q⟩ := hs
    exact fin (v := V.non) (u := Value.none) J rfl q
  | brk =>
    obtain ⟨_, _, _, q⟩ := hs
    exact False.elim q
  | cont =>
    obtain ⟨_, _, _, q⟩ := hs
    exact False.elim q
end
end RM
/-! Rightmarks k40: an instance walked by its own __iter__, which gives iter(self.held_rests). -/
namespace RM
open PySem PySem.Spec PyProof.Rows L2
theorem sc_iter : FnScope ["self"] ["self"] (defScope (mth 39 7)) := ⟨rfl, rfl, rfl, by decide +kernel, rfl, by decide +kernel, by decide +kernel⟩
/-- what the walk over an instance knows -/
structure IterK (K : PySem.W.Frag) (mg : Str → Option Value) (Cr C f : Addr) : Prop where
  rc : RCls K Cr C
  at_ : PySem.W.findIn K (.ref C) "__iter__" = some (some (.ref f))
  fn : PySem.W.isFn K (.ref f) = true
  fun_ : ∃ fd, FunM K "__iter__" "Rule.__iter__" (mth 39 7) f fd
section
variable {P : Program} {w : World} {K : PySem.W.Frag} {mg : Str → Option Value} {base : Heap} {Cr C f a dx l : Addr} {fs : List (Str × V)} {zs : List V}
/-- the def __iter__, run from one state: the iterator is younger than that state -/
theorem iter_code {B : Around} {outer : List Env} {s : Shared} {H : Hp} (T : Tx K mg) (J : IterK K mg Cr C f) (hr : Room 2 B) (e0 : Env0 P w K mg base B outer s H) (h1 : H a = some (.ins C dx fs)) (h2 : fs.lookup ("held_rests" : Str) = some (.ref l)) (h3 : H l = some (.lst zs)) :
    codeAny (model P w) B (.call (.ref f) ⟨[.ref a], []⟩) (CR CX0 outer P w H s (fun v H' => ∃ it, v = .ref it ∧ H it = none ∧ H' = upd H it (ItO l it 0) ∧ s.heap.objs.size ≤ it) E0) s := by
  obtain ⟨fd, F⟩ := J.fun_
  have bN := F.bindsN (ps := ["self"]) fun kV doc pm an cdv ct us hl => by
    match us, hl with
    | [u], _ => rfl
  obtain ⟨oc, od, dV, kV, doc, pm, an, cdv, ct, osl, rfl, lk, hcd, _, _⟩ := F.ex
  have kin : K.In s.heap := e0.mod.kin.keeps fun c u z => (e0.bs c u z).1
  have nolim : s.heap.NoLimit := e0.mod.nolimit.keeps fun c u z => (e0.bs c u z).1
  have bind1 := bN s [.ref a] kin rfl
  rw [List.append_nil] at bind1
  have par1 : ∀ q ∈ (["self"] : List Str).zip [Value.ref a], (defScope (mth 39 7)).names.lookup q.1 = some .local ∨ ((defScope (mth 39 7)).names.lookup q.1 = some .cell ∧ ((cellsFrom (s.heap.objs.size + 1) (defScope (mth 39 7)).names []).lookup q.1).isSome = true) := fun q hq => by
    obtain rfl : q = (("self" : Str), Value.ref a) := by simpa using hq
    exact .inl rfl
  refine codeAny_call_function hr.depth (kin _ _ lk) rfl rfl rfl rfl (PySem.W.codeRec_of kin hcd) (bind1 _ _ _ _ ?_)
  refine wpAny_newFunctionEnv_cells rfl par1 fun env0 henv s1 x1 => ?_
  subst henv
  refine ⟨nolim.keeps x1.toInCall.keep, codeAny_func ?_⟩
  have I1 := inv_start (CX := CX0) (N := ["self"]) (qual := "Rule.__iter__") (f := f) (cd := cdv) (E := E0) sc_iter hr.hd e0 (vs := [V.ref a]) rfl (show Vals [V.ref a] [Value.ref a] from .cons (rref a) .nil) x1
  have body : PSs (cxOf CX0 P w K mg base ["self"] "Rule.__iter__" (defScope (mth 39 7)) f cdv B outer s H E0) (defBody (mth 39 7)) (tRet (tCB (ItX.rIterN K s.heap.objs.size) (tCons (tFld K (tVar 0) "held_rests") tNil))) :=
    pss_one (ps_ret (pe_callB ItX.call_iterN (by rfl) T.iter rfl (pa_cons (pe_fld (pv 0) rfl) pa_nil)))
  have red := body.run [] s1 (start ["self"] [V.ref a]) H { nx := fun _ _ => False, rt := fun v H' => ∃ it, v = .ref it ∧ H it = none ∧ H' = upd H it (ItO l it 0) ∧ s.heap.objs.size ≤ it } I1
    ⟨_, rfl, a, C, dx, fs, _, rfl, h1, J.rc.cls, J.rc.nR, h2, l, zs, rfl, SqL.of h3, fun it hn hy => ⟨it, rfl, hn, rfl, hy⟩⟩
  refine wpAny_mono red (fun fl s' z => ?_) fun _ _ z => z
  cases fl with
  | ret u =>
    obtain ⟨v, σ', H', Iz, rv, q⟩ := z
    exact ⟨v, H', Iz.os, Iz.bare, Iz.base, Iz.hok, rv, q⟩
  | next =>
    obtain ⟨_, _, _, q⟩ := z
    exact q.elim
  | brk =>
    obtain ⟨_, _, _, q⟩ := z
    exact q.elim
  | cont =>
    obtain ⟨_, _, _, q⟩ := z
    exact q.elim
end
section
variable {X : Cx} {pins : List (Addr × Obj)} {σ : L2.St} {H : Hp} {s : Shared} {Cr C f a dx l : Addr} {fs : List (Str × V)} {zs : List V} {B : Around} {E : Value → Shared → Prop} {Q : Value → Shared → Prop}
/-- iter(o): a new list iterator, not tracked -/
theorem iter_inst (T : Tx X.K X.mg) (J : IterK X.K X.mg Cr C f) (hr : Room 2 B) (hf : B.frames = X.A.frames) (I : Inv X pins σ H s) (h1 : H a = some (.ins C dx fs)) (h2 : fs.lookup ("held_rests" : Str) = some (.ref l)) (h3 : H l = some (.lst zs))
    (k : ∀ it s', Inv X pins σ (upd H it (ItO l it 0)) s' → H it = none → s.heap.objs.size ≤ it → Q (.ref it) s') : wpAny (model X.prog X.w) B (pyIter (.ref a)) Q E s := by
  obtain ⟨ox, od, Ji, _⟩ := ins_at I h1
  obtain ⟨m, hF⟩ := I.fr
  have e := I.env0
  refine PySem.W.owit_iter hF I.ok.mod.kin Ji J.at_ J.fn (wpAny_call (codeAny_mono (iter_code (P := X.prog) (w := X.w) (base := X.base) T J hr ⟨by rw [hf]; exact e.frames, e.mod, e.bs, e.bsz, e.funs, e.frf, e.hok, e.bare⟩ h1 h2 h3) fun fin s' hq => ?_))
  cases fin with
  | error e => exact False.elim hq
  | ok fl => cases fl with
    | ret u =>
      obtain ⟨v, H', I', rv, it, rfl, hn, rfl, hy⟩ := I.after hq
      obtain rfl : u = Value.ref it := rv
      have T1 : s'.TypeIs (.ref it) "list_iterator" := ⟨_, itO_get I' upd_same, rfl⟩
      exact wpAny_specialOf T1 slot_listiter_next.lookup (k it s' I' hn hy)
    | next => exact hq.elim
    | brk => exact hq.elim
    | cont => exact hq.elim
/-- forgotten, it may turn -/
theorem iter_drop {it : Addr} {i : Nat} (I : Inv X pins σ (upd H it (ItO l it i)) s) (hn : H it = none) (hy : X.s_0.heap.objs.size ≤ it) : Inv X pins σ H s ∧ s.heap.IsListIter it l i ∧ FpOk X pins H it := by
  have I2 := ItX.inv_drop I (show upd H it (ItO l it i) it = some (.ext _) from upd_same)
  rw [ItX.dropH_upd hn] at I2
  have fp := ItX.inv_fp I (show upd H it (ItO l it i) it = some (ItO l it i) from upd_same) hy
  rw [ItX.dropH_upd hn] at fp
  exact ⟨I2, ⟨_, itO_get I upd_same, rfl, rfl⟩, fp⟩
/-- for x in o, [.. for x in o] -/
def iOwn (K : PySem.W.Frag) (C : Addr) (ta : TE) : TI := fun σ H R => ta σ H fun x H1 => ∃ a dx fs l zs, x = .ref a ∧ H1 a = some (.ins C dx fs) ∧ fs.lookup ("held_rests" : Str) = some (.ref l) ∧ H1 l = some (.lst zs) ∧ R (Itl K l) H1
theorem pi_own {tg e : Expr} {ta : TE} (T : Tx X.K X.mg) (J : IterK X.K X.mg Cr C f) (hr : Room 2 X.A) (he : PE X e ta) : PI X tg e (iOwn X.K C ta) := by
  refine ⟨fun pins s σ H R I h => ?_⟩
  refine thn (he.run pins s σ H _ I h) fun v s1 ⟨x, H1, I1, r1, a, dx, fs, l, zs, ex, h1, h2, h3, q⟩ => ?_
  subst ex
  cases r1
  refine iter_inst T J hr rfl I1 h1 h2 h3 fun it s2 I2 hn hy => ?_
  obtain ⟨I3, st, fp⟩ := iter_drop I2 hn (Nat.le_trans I1.sz hy)
  refine ⟨it, [it], _, _, H1, rfl, I3, turn_list l it, st, fun b hb => ?_, q⟩
  obtain rfl : b = it := by simpa using hb
  exact fp
/-! ### list.extend's loop -/
theorem ext_loop {B1 : Around} {q n : Nat} {it : Addr} {Rs : Result → Shared → Prop} {T : Nat → List V → Hp → Shared → Prop}
    (step : ∀ i acc H s, i < n → T i acc H s → wpAny (model X.prog X.w) B1.in1 (pyNext (.ref it)) (fun r s' => ∃ u v H', r = some u ∧ RelV v u ∧ Inv X pins σ H' s' ∧ H' q = some (.lst acc) ∧ acc.length < sizeLine ∧
      ∀ s'', Inv X pins σ (upd H' q (.lst (acc ++ [v]))) s'' → (∀ b o, b ≠ q → s'.heap.get? b = some o → s''.heap.get? b = some o) → T (i + 1) (acc ++ [v]) (upd H' q (.lst (acc ++ [v]))) s'') (fun e s' => Rs (.error e) s') s)
    (fin : ∀ acc H s, T n acc H s → wpAny (model X.prog X.w) B1.in1 (pyNext (.ref it)) (fun r s' => r = none ∧ Rs (.ok (.ret .none)) s') (fun e s' => Rs (.error e) s') s) :
    ∀ (m i : Nat) (acc : List V) (H : Hp) (s : Shared), n - i = m → i ≤ n → T i acc H s → codeAny (model X.prog X.w) B1 (.builtin "list.extend.loop" ⟨[.ref q, .ref it, .none], []⟩) Rs s := by
  intro m
  induction m with
  | zero =>
    intro i acc H s e hi t
    obtain rfl : i = n := by omega
    refine codeAny_builtin PySem.F.entry_extend_loop ?_
    rw [Around.under_plainId PySem.F.plain_extend_loop _]
    refine wpAny_bind (wpAny_mono (fin acc H s t) (fun r s' z => ?_) fun _ _ z => z)
    obtain ⟨rfl, z⟩ := z
    exact wpAny_pure z
  | succ m ih =>
    intro i acc H s e hi t
    refine codeAny_builtin PySem.F.entry_extend_loop ?_
    rw [Around.under_plainId PySem.F.plain_extend_loop _]
    refine wpAny_bind (wpAny_mono (step i acc H s (by omega) t) (fun r s' z => ?_) fun _ _ z => z)
    obtain ⟨u, v, H', rfl, rv, I', hq, hl, go⟩ := z
    obtain ⟨z, its, kk, r2, hlen, e2⟩ := I'.lstM hq
    refine wpAny_bind (wpAny_updateSeq e2 rfl (wpAny_pure ⟨plainId_quiet PySem.F.plain_extend_loop _, ?_⟩) (by rw [List.size_toArray]; omega) (by show (its.toArray.push u).size ≤ sizeLine + 1; rw [Array.size_push, List.size_toArray]; omega))
    exact ih (i + 1) (acc ++ [v]) _ _ (by omega) (by omega) (go _ (I'.lset (its' := its ++ [u]) (t' := s'.toks) hq e2 (by simp) (r2.append (.cons rv .nil)) (by rw [List.length_append, List.length_singleton]; omega)) fun b o hb e3 => (Heap.get?_update_other _ _ (Ne.symm hb)).trans e3)
end
end RM
/-! Rightmarks k40: list(o), o an instance with its own __iter__ and __len__. -/
namespace RM
open PySem PySem.Spec PyProof.Rows L2
section
variable {X : Cx} {pins : List (Addr × Obj)} {σ : L2.St} {H : Hp} {s : Shared} {Cr C f fl a dx l : Addr} {fs : List (Str × V)} {zs : List V} {B : Around} {E : Value → Shared → Prop}
/-- the room that list makes beforehand asks the own __len__ -/
theorem hint_own {Q : Bool → Shared → Prop} {ox : Obj} {od : Option Obj} (hK : X.K.In s.heap) (J : PySem.W.InstAt s.heap a ox C od) (S : SpecOf X.K C "__len__" fl)
    (h : wpAny (model X.prog X.w) B (call (.builtin "len") [.ref a]) (fun v s' => ∃ (n : Nat) (t : Tok), v = .int n t ∧ n ≤ 1000 ∧ ∀ b, Q b s') (fun _ _ => False) s) : wpAny (model X.prog X.w) B (Builtin.List.listLengthHint (.ref a)) Q E s := by
  unfold Builtin.List.listLengthHint
  refine wpAny_bind (wpAny_bind (J.type.here ((PySem.W.looks_findIn hK S.at_).here ?_)))
  refine PySem.W.KFB.if_not rfl ?_
  refine PySem.W.KFB.if_so rfl ?_
  refine wpAny_bind (wpAny_rule (wpAny_bind (wpAny_attempt (wpAny_mono h (fun v s' z => ?_) fun e s' z => ?_))))
  · obtain ⟨n, t, rfl, hn, q⟩ := z
    refine wpAny_bind (m := asInt? (.int (n : Int) t)) (wpAny_pure ?_)
    refine wpAny_ite_split (fun c => ?_) fun _ => wpAny_pure (q _)
    exfalso
    rw [Int.toNat_natCast] at c
    have c2 : n > sizeLine := of_decide_eq_true c
    rw [sizeLine_eq] at c2
    omega
  · exact z.elim
/-- list(o) -/
def rListO (K : PySem.W.Frag) (C fl : Addr) (spL : Sp) : List V → Hp → VK → Prop := fun xs H Q => ∃ a dx fs l zs, xs = [.ref a] ∧ H a = some (.ins C dx fs) ∧ fs.lookup ("held_rests" : Str) = some (.ref l) ∧ H l = some (.lst zs) ∧ zs.length ≤ 1000 ∧ SpecOf K C "__len__" fl ∧
  (∀ H', Same H H' → spL [.ref a] H' (fun v H2 => v = .int (zs.length : Int) ∧ H2 = H') E0) ∧ ∀ q, H q = none → Q (.ref q) (upd H q (.lst zs))
theorem upd_back {G : Hp} {p : Addr} {o : HO} (h : G p = some o) : upd G p o = G := by
  funext c
  by_cases hc : c = p
  · rw [hc, upd_same, h]
  · rw [upd_ne hc]
theorem touch_ok {q : Addr} {G : Hp} {Q : Unit → Shared → Prop} (I : Inv X pins σ G s) (hq : G q = some (.lst [])) (k : ∀ s', Inv X pins σ G s' → (∀ b o, b ≠ q → s.heap.get? b = some o → s'.heap.get? b = some o) → Q () s') : wpAny (model X.prog X.w) B (Builtin.List.listTouch (.ref q)) Q E s := by
  obtain ⟨z, its, c0, r3, hl3, e3⟩ := I.lstM hq
  cases r3
  show wpAny _ _ (updateSeq q (·.push .none) >>= fun _ => updateSeq q (·.pop)) _ _ _
  refine wpAny_bind (wpAny_updateSeq e3 rfl ?_)
  have I2 := I.lset (f := (·.push Value.none)) (its' := [Value.none]) (ys := [.non]) (t' := s.toks) hq e3 (by simp) (.cons rfl .nil) (by rw [List.length_singleton, sizeLine_eq]; decide)
  obtain ⟨z4, its4, k4, r4, hl4, e4⟩ := I2.lstM upd_same
  obtain ⟨u4, rfl, ru4⟩ := r4.one
  refine wpAny_updateSeq e4 rfl ?_ (by show 1 ≤ sizeLine; rw [sizeLine_eq]; decide) (by show 0 ≤ sizeLine + 1; exact Nat.zero_le _)
  have I3 := I2.lset (f := (·.pop)) (its := [u4]) (its' := []) (ys := []) (t' := s.toks) upd_same e4 (by rfl) .nil (Nat.zero_le _)
  rw [upd_upd, upd_back hq] at I3
  exact k _ I3 fun b o hb e => (Heap.get?_update_other _ _ (Ne.symm hb)).trans ((Heap.get?_update_other _ _ (Ne.symm hb)).trans e)
theorem call_listO {n : Nat} {spL : Sp} (hcalm : X.calm = true) (T : Tx X.K X.mg) (J : IterK X.K X.mg Cr C f) (FL : FnR X.prog X.w X.K X.mg X.base CX0 n fl spL) (hr : Room (n + 5) X.A) : CallR X (.type "list") (rListO X.K C fl spL) := by
  intro pins s σ H xs us Q I rv h
  obtain ⟨a, dx, fs, l, zs, rfl, h1, h2, h3, hz, S, hlen, q⟩ := h
  obtain ⟨u, rfl, ru⟩ := rv.one
  cases ru
  refine callType_codes (Q₁ := fun obj s₁ => obj = .ref s.heap.objs.size ∧ s₁ = { s with heap := s.heap.push { cls := .type "list", data := .seq #[] } }) PySem.F.called_list (PySem.F.typeCall_list_1 _) PySem.F.entry_list_init
    (code_list_new _ ⟨rfl, rfl⟩) fun obj s₁ hs => ?_
  obtain ⟨rfl, rfl⟩ := hs
  have hS : (s.heap.push { cls := .type "list", data := .seq #[] }).get? s.heap.objs.size = some { cls := .type "list", data := .seq #[] } := Heap.get?_push_size _ rfl
  refine ⟨⟨_, hS, rfl⟩, PySem.F.args_list_init_2 _ _, ?_⟩
  have fr : H s.heap.objs.size = none := I.hok.fresh (Nat.le_refl _)
  have qq := q _ fr
  have hqs : X.s_0.heap.objs.size ≤ s.heap.objs.size := I.sz
  have I1 : Inv X pins σ (upd H s.heap.objs.size (.lst [])) { s with heap := s.heap.push { cls := .type "list", data := .seq #[] } } := I.lnew (its := []) (t' := s.toks) .nil (Nat.zero_le _)
  generalize s.heap.objs.size = q0 at *
  show wpAny _ _ (do let old ← Builtin.List.listItems (.ref q0); Builtin.List.listUpdate (.ref q0) (fun _ => #[]); letGo old.toList.reverse; Builtin.List.listExtendWith (.ref q0) (.ref a) .none) _ _ _
  refine wpAny_bind ?_
  unfold Builtin.List.listItems
  refine wpAny_bind (wpAny_seqItems hS rfl (wpAny_pure ?_))
  show wpAny _ _ (updateSeq q0 (fun _ => #[]) >>= fun _ => letGo (#[] : Array Value).toList.reverse >>= fun _ => Builtin.List.listExtendWith (.ref q0) (.ref a) .none) _ _ _
  refine wpAny_bind (wpAny_updateSeq hS rfl ?_)
  have I2 := I1.lset (f := fun _ => #[]) (its := []) (its' := []) (ys := []) (t' := s.toks) upd_same hS rfl .nil (Nat.zero_le _)
  rw [upd_upd] at I2
  refine wpAny_bind (wpAny_letGo ?_)
  have s01 : Same H (upd H q0 (.lst [])) := same_upd fr
  have nqa : q0 ≠ a := fun e => by rw [← e, fr] at h1; cases h1
  have nlq : l ≠ q0 := fun e => by rw [e, fr] at h3; cases h3
  obtain ⟨ox, od, Ji, _⟩ := ins_at I2 (s01 _ _ h1)
  unfold Builtin.List.listExtendWith
  refine wpAny_bind (Ji.type.here ?_)
  have c1 : Builtin.List.listSameRef (.ref q0) (.ref a) = false := by simp [Builtin.List.listSameRef, nqa]
  have c2 : (Value.ref C == Value.type "list") = false := rfl
  have c3 : (Value.ref C == Value.type "tuple") = false := rfl
  simp only [c1, c2, c3, Bool.or_false, Bool.false_eq_true, if_false]
  refine wpAny_bind (iter_inst T J (hr.in1.in1.mono (by omega)) rfl I2 (s01 _ _ h1) h2 (s01 _ _ h3) fun it s3 I3 hn hy => ?_)
  have s02 : Same H (upd (upd H q0 (.lst [])) it (ItO l it 0)) := s01.trans (same_upd hn)
  have niq : it ≠ q0 := fun e => by rw [e, upd_same] at hn; cases hn
  obtain ⟨ox3, od3, J3, _⟩ := ins_at I3 (s02 _ _ h1)
  obtain ⟨m3, F3⟩ := I3.fr
  have hq3 : (upd (upd H q0 (.lst [])) it (ItO l it 0)) q0 = some (.lst []) := by rw [upd_ne (Ne.symm niq), upd_same]
  -- the loop, once room is made
  have loop : ∀ s4, Inv X pins σ (upd (upd H q0 (.lst [])) it (ItO l it 0)) s4 → codeAny (model X.prog X.w) X.A.in1 (.builtin "list.extend.loop" ⟨[.ref q0, .ref it, .none], []⟩) (wants (fun r s₂ => r = .none ∧ EP X pins σ Q (.ref q0) s₂) X.xe) s4 := by
    intro s4 I4
    obtain ⟨I5, st5, fp5⟩ := iter_drop I4 hn (Nat.le_trans I2.sz hy)
    have hnH : H it = none := by rw [upd_ne niq] at hn; exact hn
    have fpG : ∀ ys, FpOk X pins (upd H q0 (.lst ys)) it := fun ys => ⟨by rw [upd_ne niq]; exact hnH, fp5.2⟩
    refine ext_loop (pins := pins) (σ := σ) (n := zs.length) (T := fun i acc G s => i ≤ zs.length ∧ acc = zs.take i ∧ G = upd H q0 (.lst acc) ∧ Inv X pins σ G s ∧ s.heap.IsListIter it l i) ?_ ?_ zs.length 0 [] _ s4 rfl (Nat.zero_le _) ⟨Nat.zero_le _, rfl, rfl, I5, st5⟩
    · rintro i acc G s5 hi ⟨_, rfl, rfl, I6, st⟩
      have h3G : (upd H q0 (.lst (zs.take i))) l = some (.lst zs) := by rw [upd_ne nlq]; exact h3
      obtain ⟨its, rv, pl, _⟩ := I6.list (SqL.of h3G)
      have hx : zs[i]? = some zs[i] := List.getElem?_eq_getElem hi
      obtain ⟨u, hu, ru⟩ := rv.get hx
      obtain ⟨f0, f1, f2, f3, f4, f5⟩ := fpG (zs.take i)
      refine wpAny_pyNext_list_item st pl.isList (x := u) (by simpa using hu) fun h' st' sb => ?_
      have I7 : Inv X pins σ (upd H q0 (.lst (zs.take i))) { s5 with heap := h' } := I6.turned (t' := s5.toks) (fun b o hb e => (sb.2 b hb).trans e) f0 f1 f3 f4 f5
      refine ⟨u, zs[i], _, rfl, ru, I7, upd_same, by rw [List.length_take, sizeLine_eq]; omega, fun s8 I8 kk => ⟨hi, ?_, ?_, ?_, st'.at fun o e => kk it o niq e⟩⟩
      · rw [List.take_add_one, hx]; rfl
      · rw [upd_upd]
      · exact I8
    · rintro acc G s5 ⟨_, rfl, rfl, I6, st⟩
      have h3G : (upd H q0 (.lst (zs.take zs.length))) l = some (.lst zs) := by rw [upd_ne nlq]; exact h3
      obtain ⟨its, rv, pl, _⟩ := I6.list (SqL.of h3G)
      obtain ⟨f0, f1, f2, f3, f4, f5⟩ := fpG (zs.take zs.length)
      have hlz := rv.length
      refine wpAny_pyNext_list_end (I6.ok.hd hcalm) st pl.isList (by simp; omega) fun h' eb => ⟨rfl, rfl, .ref q0, _, I6.turned (t' := s5.toks) (fun b o hb e => eb b o hb e) f0 f1 f3 f4 f5, rfl, ?_⟩
      rw [List.take_length]
      exact qq
  refine wpAny_bind (wpAny_holding (hint_own I3.kIn J3 S ?_))
  refine PySem.W.len_K F3 I3.ok.mod.kin J3 S.at_ S.fn (thn (run_at FL (hr.in1.in1.in1.mono (by omega)) rfl I3 (.cons (rref _) .nil) (hlen _ s02)) fun v s4 hv => ?_)
  obtain ⟨z, H4, I4, rz, rfl, rfl⟩ := hv
  obtain ⟨t, rfl⟩ := rz
  have l63 := line63
  refine ⟨by omega, zs.length, _, rfl, hz, fun b => ?_⟩
  refine wpAny_ite_split (fun _ => wpAny_bind (wpAny_rule (wpAny_bind (touch_ok (I4.tok _) hq3 fun s5 I5 _ => wpAny_pure ⟨plainId_quiet PySem.F.plain_extend_loop _, loop _ I5⟩)))) (fun _ => wpAny_pure ⟨plainId_quiet PySem.F.plain_extend_loop _, loop _ (I4.tok _)⟩)
end
end RM
/-! Rightmarks k40: list(zip(o, o)). -/
namespace RM
open PySem PySem.Spec PyProof.Rows L2
theorem plain_zn : plainId "zip.__new__" = true := by decide +kernel
section
variable {X : Cx} {pins : List (Addr × Obj)} {σ : L2.St} {H : Hp} {s : Shared} {Cr C f a dx l : Addr} {fs : List (Str × V)} {zs : List V} {B : Around} {E : Value → Shared → Prop}
abbrev tiO (i1 i2 : Addr) : Obj := { cls := .type "tuple", data := .seq #[.ref i1, .ref i2] }
abbrev toO : Obj := { cls := .type "tuple", data := .seq #[.none, .none] }
abbrev zzO (TI TO : Addr) : Obj := { cls := .type "zip", data := .fields #[.none, .bool false, .bool false, .ref TI, .ref TO] }
abbrev zipH (h : Heap) (i1 i2 : Addr) : Heap := ((h.push (tiO i1 i2)).push toO).push (zzO h.objs.size (h.push (tiO i1 i2)).objs.size)
theorem code_zip {Q : Value → Shared → Prop} (T : Tx X.K X.mg) (J : IterK X.K X.mg Cr C f) (hr : Room 3 B) (hf : B.frames = X.A.frames) (I : Inv X pins σ H s) (h1 : H a = some (.ins C dx fs)) (h2 : fs.lookup ("held_rests" : Str) = some (.ref l)) (h3 : H l = some (.lst zs))
    (k : ∀ i1 i2 s2, Inv X pins σ (upd (upd H i1 (ItO l i1 0)) i2 (ItO l i2 0)) s2 → H i1 = none → (upd H i1 (ItO l i1 0)) i2 = none → s.heap.objs.size ≤ i1 → s.heap.objs.size ≤ i2 → Q (.ref ((s2.heap.push (tiO i1 i2)).push toO).objs.size) { s2 with heap := zipH s2.heap i1 i2 }) :
    codeAny (model X.prog X.w) B (.call (.builtin "zip.__new__") ⟨[.type "zip", .ref a, .ref a], []⟩) (wants Q E) s := by
  refine codeAny_of_tree ?_
  show wpAny _ B.in1 (do checkBuiltinCall "zip.__new__" ⟨[.type "zip", .ref a, .ref a], []⟩; again (.builtin "zip.__new__" ⟨[.type "zip", .ref a, .ref a], []⟩)) _ _ s
  refine wpAny_bind (wpAny_of_eq (F.newCall_zip_2 _ _) (wpAny_pure ⟨plainId_quiet plain_zn _, codeAny_builtin F.entry_zip_new ?_⟩))
  rw [Around.under_plainId plain_zn _]
  have hsub := PySem.sub_zip
  obtain ⟨hp, g, d, tk, os⟩ := s
  unfold Builtin.«zip.__new__»
  have it1 : ∀ {Q' : Value → Shared → Prop} {E' : Value → Shared → Prop}, (∀ it s', Inv X pins σ (upd H it (ItO l it 0)) s' → H it = none → hp.objs.size ≤ it → Q' (.ref it) s') → wpAny (model X.prog X.w) B.in1 (pyIter (.ref a)) Q' E' ⟨hp, g, d, tk, os⟩ :=
    fun k => iter_inst T J (hr.in1) hf I h1 h2 h3 k
  wp_walk using it1
  intro i1 s1 I1 n1 y1
  have s01 : Same H (upd H i1 (ItO l i1 0)) := same_upd n1
  have y1b := I1.hok.lt (upd_same (H := H) (a := i1) (o := ItO l i1 0))
  obtain ⟨hp1, g1, d1, tk1, os1⟩ := s1
  have it2 : ∀ {Q' : Value → Shared → Prop} {E' : Value → Shared → Prop}, (∀ it s', Inv X pins σ (upd (upd H i1 (ItO l i1 0)) it (ItO l it 0)) s' → (upd H i1 (ItO l i1 0)) it = none → hp1.objs.size ≤ it → Q' (.ref it) s') → wpAny (model X.prog X.w) B.in1 (pyIter (.ref a)) Q' E' ⟨hp1, g1, d1, tk1, os1⟩ :=
    fun k => iter_inst T J (hr.in1) hf I1 (s01 _ _ h1) h2 (s01 _ _ h3) k
  wp_walk using it2
  intro i2 s2 I2 n2 y2
  obtain ⟨hp2, g2, d2, tk2, os2⟩ := s2
  wp_walk
  exact k i1 i2 ⟨hp2, g2, d2, tk2, os2⟩ I2 n1 n2 y1 (Nat.le_trans y1 (Nat.le_trans (Nat.le_of_lt y1b) y2))
theorem zap {n i1 i2 l : Nat} (h1 : i1 < n) (h2 : i2 < n) (h3 : l < n) (h4 : i1 ≠ i2) (h5 : l ≠ i1) (h6 : l ≠ i2) : ZipApart (n + 2) n (n + 1) i1 i2 l l := by
  constructor <;> first | assumption | exact Nat.ne_of_lt (by omega) | exact Nat.ne_of_gt (by omega)
theorem upd_noneB {G : Hp} {p b : Addr} {o : HO} (h : upd G p o b = none) : G b = none ∧ b ≠ p := by
  by_cases e : b = p
  · rw [e, upd_same] at h; cases h
  · rw [upd_ne e] at h; exact ⟨h, e⟩
/-- zip(o, o) -/
theorem zip_own {Q : Value → Shared → Prop} (T : Tx X.K X.mg) (J : IterK X.K X.mg Cr C f) (hr : Room 5 B) (hf : B.frames = X.A.frames) (I : Inv X pins σ H s) (h1 : H a = some (.ins C dx fs)) (h2 : fs.lookup ("held_rests" : Str) = some (.ref l)) (h3 : H l = some (.lst zs))
    (k : ∀ z TI TO i1 i2 s', Inv X pins σ H s' → IsZip s'.heap z TI TO .none → IsPair s'.heap TI (.ref i1) (.ref i2) → IsPair s'.heap TO .none .none → s'.heap.IsListIter i1 l 0 → s'.heap.IsListIter i2 l 0 → ZipApart z TI TO i1 i2 l l → (∀ c ∈ [z, TI, TO, i1, i2], FpOk X pins H c) → Q (.ref z) s') :
    wpAny (model X.prog X.w) B (call (.type "zip") [.ref a, .ref a]) Q E s := by
  refine callType_codes (Q₁ := fun obj s₁ => s₁.TypeIs obj "zip" ∧ Q obj s₁) F.called_zip (F.typeCall_zip_2 _ _) F.entry_object_init
    (code_zip (B := B.in1) T J ((hr.in1).mono (by decide)) hf I h1 h2 h3 fun i1 i2 s2 I2 n1 n2 y1 y2 => ?_) fun obj s₁ hs => ?_
  · have sz1 : (s2.heap.push (tiO i1 i2)).objs.size = s2.heap.objs.size + 1 := Heap.size_push ..
    have sz2 : ((s2.heap.push (tiO i1 i2)).push toO).objs.size = s2.heap.objs.size + 2 := by rw [Heap.size_push, sz1]
    have gz : (zipH s2.heap i1 i2).get? ((s2.heap.push (tiO i1 i2)).push toO).objs.size = some (zzO s2.heap.objs.size (s2.heap.push (tiO i1 i2)).objs.size) := Heap.get?_push_size _ rfl
    have gO : (zipH s2.heap i1 i2).get? (s2.heap.push (tiO i1 i2)).objs.size = some toO := Heap.get?_push_of_some _ (Heap.get?_push_size _ rfl)
    have gI : (zipH s2.heap i1 i2).get? s2.heap.objs.size = some (tiO i1 i2) := Heap.get?_push_of_some _ (Heap.get?_push_of_some _ (Heap.get?_push_size _ rfl))
    have I3 : Inv X pins σ (upd (upd H i1 (ItO l i1 0)) i2 (ItO l i2 0)) { s2 with heap := zipH s2.heap i1 i2 } := I2.kept (t' := s2.toks) fun b o e => Heap.get?_push_of_some _ (Heap.get?_push_of_some _ (Heap.get?_push_of_some _ e))
    obtain ⟨nH2, n21⟩ := upd_noneB n2
    have l2 := I2.hok.lt (upd_same (H := upd H i1 (ItO l i1 0)) (a := i2) (o := ItO l i2 0))
    have l1 := I2.hok.lt (show upd (upd H i1 (ItO l i1 0)) i2 (ItO l i2 0) i1 = some (ItO l i1 0) from by rw [upd_ne (Ne.symm n21), upd_same])
    have nl1 : l ≠ i1 := ne_of_none h3 n1
    have nl2 : l ≠ i2 := ne_of_none h3 nH2
    have ll := I2.hok.lt (show upd (upd H i1 (ItO l i1 0)) i2 (ItO l i2 0) l = some (.lst zs) from by rw [upd_ne nl2, upd_ne nl1, h3])
    obtain ⟨I4, st2, fp2⟩ := iter_drop I3 n2 (Nat.le_trans I.sz y2)
    obtain ⟨I5, st1, fp1⟩ := iter_drop I4 n1 (Nat.le_trans I.sz y1)
    have fpn : ∀ b, s2.heap.objs.size ≤ b → FpOk X pins H b := fun b hb => I2.fpOk hb (upd_noneB (upd_noneB (I2.hok.fresh hb)).1).1
    refine ⟨⟨_, gz, rfl⟩, k _ s2.heap.objs.size (s2.heap.push (tiO i1 i2)).objs.size i1 i2 _ I5 gz gI gO st1 st2 ?_ fun c hc => ?_⟩
    · rw [sz1, sz2]
      exact zap l1 l2 ll (Ne.symm n21) nl1 nl2
    · have hc' : c = ((s2.heap.push (tiO i1 i2)).push toO).objs.size ∨ c = s2.heap.objs.size ∨ c = (s2.heap.push (tiO i1 i2)).objs.size ∨ c = i1 ∨ c = i2 := by simpa using hc
      rcases hc' with e | e | e | e | e
      · rw [e]; exact fpn _ (by rw [sz2]; exact Nat.le_add_right _ _)
      · rw [e]; exact fpn _ (Nat.le_refl _)
      · rw [e]; exact fpn _ (by rw [sz1]; exact Nat.le_add_right _ _)
      · rw [e]; exact fp1
      · rw [e]; exact ⟨nH2, fp2.2⟩
  · exact ⟨hs.1, F.args_object_init_3 obj _ _, object_init_meets F.called_zip.init.lookup F.called_zip.made (by decide) X.prog X.w B.in1 _ s₁ ⟨hs.1, rfl, hs.2⟩⟩
/-! ### list(zip(o, o)) -/
structure ZS (h : Heap) (z TI TO i1 i2 l T0 : Addr) (i : Nat) : Prop where
  ti : IsPair h TI (.ref i1) (.ref i2)
  a1 : h.IsListIter i1 l i
  a2 : h.IsListIter i2 l i
  to : ∃ o, h.get? TO = some o
  zz : (i = 0 ∧ IsZip h z TI TO .none ∧ ∃ u v, IsPair h TO u v) ∨ (0 < i ∧ ∃ b, IsZipHeld h z TI TO T0 b)
theorem ZS.keep {h h' : Heap} {z TI TO i1 i2 l T0 : Addr} {i : Nat} (Z : ZS h z TI TO i1 i2 l T0 i) (k5 : ∀ c ∈ [z, TI, TO, i1, i2], ∀ o, h.get? c = some o → h'.get? c = some o) : ZS h' z TI TO i1 i2 l T0 i := by
  refine ⟨k5 _ (by simp) _ Z.ti, Z.a1.at fun o e => k5 _ (by simp) _ e, Z.a2.at fun o e => k5 _ (by simp) _ e, Z.to.imp fun o e => k5 _ (by simp) _ e, ?_⟩
  rcases Z.zz with ⟨e, hz, u, v, hp⟩ | ⟨e, b, hz⟩
  · exact .inl ⟨e, k5 _ (by simp) _ hz, u, v, k5 _ (by simp) _ hp⟩
  · exact .inr ⟨e, b, k5 _ (by simp) _ hz⟩
theorem ZS.alive {h : Heap} {z TI TO i1 i2 l T0 : Addr} {i : Nat} (Z : ZS h z TI TO i1 i2 l T0 i) : ∀ c ∈ [z, TI, TO, i1, i2], ∃ o, h.get? c = some o := by
  intro c hc
  have hc' : c = z ∨ c = TI ∨ c = TO ∨ c = i1 ∨ c = i2 := by simpa using hc
  rcases hc' with e | e | e | e | e
  · rcases Z.zz with ⟨_, hz, _⟩ | ⟨_, _, hz⟩
    · rw [e]; exact ⟨_, hz⟩
    · rw [e]; exact ⟨_, hz⟩
  · rw [e]; exact ⟨_, Z.ti⟩
  · rw [e]; exact Z.to
  · rw [e]; obtain ⟨o, ho, _⟩ := Z.a1; exact ⟨o, ho⟩
  · rw [e]; obtain ⟨o, ho, _⟩ := Z.a2; exact ⟨o, ho⟩
theorem no_len_zip : typeLookup (.type "zip") "__len__" = pure none := by rw [typeLookup_type, builtinLookup_eq_fast]; kernel_rfl
theorem no_hint_zip : typeLookup (.type "zip") "__length_hint__" = pure none := by rw [typeLookup_type, builtinLookup_eq_fast]; kernel_rfl
/-- one pair more -/
theorem zip_step {z TI TO i1 i2 T0 : Addr} {i : Nat} {G : Hp} {Q : Option Value → Shared → Prop} (I : Inv X pins σ G s) (Z : ZS s.heap z TI TO i1 i2 l T0 i) (hT0 : 0 < i → ∃ ys, G T0 = some (.tup ys)) (D : ZipApart z TI TO i1 i2 l l) (hf : ∀ c ∈ [z, TI, TO, i1, i2], FpOk X pins G c) (h3 : G l = some (.lst zs)) (hi : i < zs.length)
    (k : ∀ T T1 s', G T = none → T ∉ [z, TI, TO, i1, i2] → Inv X pins σ (upd G T (.tup [zs[i], zs[i]])) s' → (T1 = T ∨ ∃ ys, G T1 = some (.tup ys)) → ZS s'.heap z TI TO i1 i2 l T1 (i + 1) → Q (some (.ref T)) s') : wpAny (model X.prog X.w) B (pyNext (.ref z)) Q E s := by
  obtain ⟨its, rv, pl, _⟩ := I.list (SqL.of h3)
  have hx : zs[i]? = some zs[i] := List.getElem?_eq_getElem hi
  obtain ⟨u, hu, ru⟩ := rv.get hx
  have hu' : its.toArray[i]? = some u := by simpa using hu
  have nT : G s.heap.objs.size = none := I.hok.fresh (Nat.le_refl _)
  have notin : s.heap.objs.size ∉ [z, TI, TO, i1, i2] := fun m => by
    obtain ⟨o, ho⟩ := Z.alive _ m
    exact Nat.lt_irrefl _ (Heap.lt_size ho)
  have fin : ∀ (h' : Heap) (T1 : Addr), (T1 = s.heap.objs.size ∨ ∃ ys, G T1 = some (.tup ys)) → ZS h' z TI TO i1 i2 l T1 (i + 1) → IsPair h' s.heap.objs.size u u → (∀ c o, c ≠ z → c ≠ TO → c ≠ i1 → c ≠ i2 → s.heap.get? c = some o → h'.get? c = some o) → Q (some (.ref s.heap.objs.size)) { s with heap := h' } := by
    intro h' T1 hT1 Z' hp hk
    have new : ObjOk X.prog X.w (upd G s.heap.objs.size (.tup [zs[i], zs[i]])) h' s.heap.objs.size (.tup [zs[i], zs[i]]) := ⟨by show 2 ≤ sizeLine; decide, [u, u], .cons ru (.cons ru .nil), ⟨_, hp, rfl, _, rfl⟩⟩
    exact k _ T1 _ nT notin (I.turnedNew (t' := s.toks) (ch := [z, TI, TO, i1, i2]) (fun c o hb q => hk c o (fun q' => hb (by simp [q'])) (fun q' => hb (by simp [q'])) (fun q' => hb (by simp [q'])) (fun q' => hb (by simp [q'])) q) hf (Nat.le_refl _) new) hT1 Z'
  rcases Z.zz with ⟨e0, hz, x0, y0, hTO⟩ | ⟨e0, b, hz⟩
  · exact wpAny_pyNext_zip_item D hz Z.ti hTO Z.a1 Z.a2 pl.isList pl.isList hu' hu' fun h' z' TO' a1' a2' hp hsz hk => fin h' s.heap.objs.size (.inl rfl) ⟨hk _ _ D.TIz D.TITO D.TIi1 D.TIi2 Z.ti, a1', a2', ⟨_, TO'⟩, .inr ⟨Nat.succ_pos _, false, z'⟩⟩ hp hk
  · obtain ⟨oG, hoG⟩ := hT0 e0
    obtain ⟨_, _, ⟨oT, hT, _⟩, _⟩ := I.tuple (SqT.of hoG : SqT X.K G T0 oG)
    refine wpAny_pyNext_zip_item_held D hz hT Z.ti Z.a1 Z.a2 pl.isList pl.isList hu' hu' fun h' z' a1' a2' hp hsz hk => fin h' T0 (.inr ⟨oG, hoG⟩) ⟨hk _ _ D.TIz D.TIi1 D.TIi2 Z.ti, a1', a2', ?_, .inr ⟨Nat.succ_pos _, true, z'⟩⟩ hp (fun c o c1 c2 c3 c4 e => hk c o c1 c3 c4 e)
    obtain ⟨o, ho⟩ := Z.to
    exact ⟨o, hk _ _ D.TOz D.TOi1 D.TOi2 ho⟩
/-- list(z), z = zip(o, o) just made -/
theorem list_zip {z TI TO i1 i2 T0 : Addr} {Q : Value → Shared → Prop} (hcalm : X.calm = true) (hh : B.handled = none) (I : Inv X pins σ H s) (Z : ZS s.heap z TI TO i1 i2 l T0 0) (D : ZipApart z TI TO i1 i2 l l) (hf : ∀ c ∈ [z, TI, TO, i1, i2], FpOk X pins H c) (h3 : H l = some (.lst zs)) (hne : 0 < zs.length) (hz : zs.length ≤ 1000)
    (k : ∀ (q : Addr) (ts : List Addr) (G : Hp) s', Same H G → G q = some (.lst (ts.map V.ref)) → ts.length = zs.length → (∀ (j : Nat) (t : Addr) (x : V), ts[j]? = some t → zs[j]? = some x → G t = some (.tup [x, x])) → Inv X pins σ G s' → Q (.ref q) s') :
    wpAny (model X.prog X.w) B (call (.type "list") [.ref z]) Q E s := by
  refine callType_codes (Q₁ := fun obj s₁ => obj = .ref s.heap.objs.size ∧ s₁ = { s with heap := s.heap.push { cls := .type "list", data := .seq #[] } }) PySem.F.called_list (PySem.F.typeCall_list_1 _) PySem.F.entry_list_init
    (code_list_new _ ⟨rfl, rfl⟩) fun obj s₁ hs => ?_
  obtain ⟨rfl, rfl⟩ := hs
  have hS : (s.heap.push { cls := .type "list", data := .seq #[] }).get? s.heap.objs.size = some { cls := .type "list", data := .seq #[] } := Heap.get?_push_size _ rfl
  refine ⟨⟨_, hS, rfl⟩, PySem.F.args_list_init_2 _ _, ?_⟩
  have fr : H s.heap.objs.size = none := I.hok.fresh (Nat.le_refl _)
  have I1 : Inv X pins σ (upd H s.heap.objs.size (.lst [])) { s with heap := s.heap.push { cls := .type "list", data := .seq #[] } } := I.lnew (its := []) (t' := s.toks) .nil (Nat.zero_le _)
  have ne5 : ∀ c ∈ [z, TI, TO, i1, i2], c ≠ s.heap.objs.size := fun c hc => by
    obtain ⟨o, ho⟩ := Z.alive c hc
    exact Nat.ne_of_lt (Heap.lt_size ho)
  have Z1 : ZS (s.heap.push { cls := .type "list", data := .seq #[] }) z TI TO i1 i2 l T0 0 := Z.keep fun c _ o e => Heap.get?_push_of_some _ e
  have nlq : l ≠ s.heap.objs.size := ne_of_none h3 fr
  generalize s.heap.objs.size = q0 at *
  show wpAny _ _ (do let old ← Builtin.List.listItems (.ref q0); Builtin.List.listUpdate (.ref q0) (fun _ => #[]); letGo old.toList.reverse; Builtin.List.listExtendWith (.ref q0) (.ref z) .none) _ _ _
  refine wpAny_bind ?_
  unfold Builtin.List.listItems
  refine wpAny_bind (wpAny_seqItems hS rfl (wpAny_pure ?_))
  show wpAny _ _ (updateSeq q0 (fun _ => #[]) >>= fun _ => letGo (#[] : Array Value).toList.reverse >>= fun _ => Builtin.List.listExtendWith (.ref q0) (.ref z) .none) _ _ _
  refine wpAny_bind (wpAny_updateSeq hS rfl ?_)
  have I2 := I1.lset (f := fun _ => #[]) (its := []) (its' := []) (ys := []) (t' := s.toks) upd_same hS rfl .nil (Nat.zero_le _)
  rw [upd_upd] at I2
  refine wpAny_bind (wpAny_letGo ?_)
  have Z2 : ZS ((s.heap.push { cls := .type "list", data := .seq #[] }).update q0 (Obj.mapSeq fun _ => #[])) z TI TO i1 i2 l T0 0 := Z1.keep fun c hc o e => (Heap.get?_update_other _ _ (Ne.symm (ne5 c hc))).trans e
  have nzq : q0 ≠ z := Ne.symm (ne5 z (by simp))
  obtain ⟨_, zz2, _⟩ | ⟨e, _⟩ := Z2.zz
  case inr => exact absurd e (by decide)
  have hTy : ∀ (t : Nat), ({ s with heap := (s.heap.push { cls := .type "list", data := .seq #[] }).update q0 (Obj.mapSeq fun _ => #[]), toks := t } : Shared).TypeIs (.ref z) "zip" := fun _ => ⟨_, zz2, rfl⟩
  unfold Builtin.List.listExtendWith
  refine wpAny_bind (wpAny_typeOf (hTy _) ?_)
  have c1 : Builtin.List.listSameRef (.ref q0) (.ref z) = false := by simp [Builtin.List.listSameRef, nzq]
  have c2 : (Value.type "zip" == Value.type "list") = false := by decide
  have c3 : (Value.type "zip" == Value.type "tuple") = false := by decide
  simp only [c1, c2, c3, Bool.or_false, Bool.false_eq_true, if_false]
  refine wpAny_bind (wpAny_pyIter_zip zz2 (wpAny_bind (wpAny_holding ?_)))
  have s01 : Same H (upd H q0 (.lst [])) := same_upd fr
  have loop : ∀ s4, Inv X pins σ (upd H q0 (.lst [])) s4 → ZS s4.heap z TI TO i1 i2 l T0 0 → codeAny (model X.prog X.w) B.in1 (.builtin "list.extend.loop" ⟨[.ref q0, .ref z, .none], []⟩) (wants (fun r s₂ => r = .none ∧ Q (.ref q0) s₂) E) s4 := by
    intro s4 I4 Z4
    refine ext_loop (pins := pins) (σ := σ) (n := zs.length) (T := fun i acc G s => ∃ (T0 : Addr) (ts : List Addr), acc = ts.map V.ref ∧ ts.length = i ∧ (∀ (j : Nat) (t : Addr) (x : V), ts[j]? = some t → zs[j]? = some x → G t = some (.tup [x, x])) ∧ Same H G ∧ G q0 = some (.lst acc) ∧ Inv X pins σ G s ∧ ZS s.heap z TI TO i1 i2 l T0 i ∧
      (0 < i → ∃ ys, G T0 = some (.tup ys)) ∧ (∀ c ∈ [z, TI, TO, i1, i2], G c = none)) ?_ ?_ zs.length 0 [] _ s4 rfl (Nat.zero_le _) ⟨T0, [], rfl, rfl, fun j t x h => absurd h (by simp), s01, upd_same, I4, Z4, fun h => absurd h (by decide), fun c hc => by rw [upd_ne (ne5 c hc)]; exact (hf c hc).1⟩
    · rintro i acc G s5 hi ⟨T0, ts, rfl, htl, hts, sG, hq, I6, Z6, hT0, hn5⟩
      refine zip_step I6 Z6 hT0 D (fun c hc => ⟨hn5 c hc, (hf c hc).2⟩) (sG _ _ h3) hi fun T T1 s7 nT nm I7 hT1 Z7 => ?_
      have nTq : T ≠ q0 := fun e => by rw [e, hq] at nT; cases nT
      refine ⟨.ref T, .ref T, _, rfl, rfl, I7, by rw [upd_ne (Ne.symm nTq)]; exact hq, by rw [List.length_map, sizeLine_eq]; omega, fun s8 I8 kk => ⟨T1, ts ++ [T], by rw [List.map_append]; rfl, by rw [List.length_append, htl]; rfl, ?_, ?_, upd_same, I8, Z7.keep fun c hc o e => kk c o (ne5 c hc) e, fun _ => ?_, fun c hc => ?_⟩⟩
      · intro j t x ht hx
        by_cases hj : j < ts.length
        · rw [List.getElem?_append_left hj] at ht
          have h9 := hts j t x ht hx
          rw [upd_ne (ne_of h9 hq fun e => nomatch e), upd_ne (ne_of_none h9 nT)]
          exact h9
        · have hj2 : j = ts.length := by
            have := (List.getElem?_eq_some_iff.mp ht).1
            rw [List.length_append] at this
            have h1 : j < ts.length + 1 := this
            omega
          subst hj2
          rw [List.getElem?_append_right (Nat.le_refl _), Nat.sub_self] at ht
          obtain rfl : T = t := Option.some.inj ht
          rw [htl, List.getElem?_eq_getElem hi] at hx
          obtain rfl := Option.some.inj hx
          rw [upd_ne nTq, upd_same]
      · intro b o hb
        have h9 := sG b o hb
        rw [upd_ne (ne_of_none hb fr), upd_ne (ne_of_none h9 nT)]
        exact h9
      · rcases hT1 with e | ⟨ys, e⟩
        · exact ⟨_, by rw [e, upd_ne nTq, upd_same]⟩
        · exact ⟨ys, by rw [upd_ne (ne_of e hq fun e => nomatch e), upd_ne (ne_of_none e nT)]; exact e⟩
      · rw [upd_ne (ne5 c hc), upd_ne (show c ≠ T from fun e => nm (e ▸ hc))]
        exact hn5 c hc
    · rintro acc G s5 ⟨T0, ts, rfl, htl, hts, sG, hq, I6, Z6, hT0, hn5⟩
      obtain ⟨its, rv, pl, _⟩ := I6.list (SqL.of (sG _ _ h3))
      have hlz := rv.length
      obtain ⟨e0, _⟩ | ⟨e0, b, hz⟩ := Z6.zz
      · omega
      · obtain ⟨ys, hys⟩ := hT0 e0
        obtain ⟨_, _, ⟨oT, hT, _⟩, _⟩ := I6.tuple (SqT.of hys : SqT X.K G T0 ys)
        exact wpAny_pyNext_zip_end_held hh D hz hT Z6.ti Z6.a1 Z6.a2 pl.isList pl.isList (.inl (by simp; omega)) fun h' hk => ⟨rfl, rfl, k q0 ts G _ sG hq htl hts (I6.turnedL (t' := s5.toks) (ch := [z, TI, TO, i1, i2]) (fun c o hb q => hk c o (fun q' => hb (by simp [q'])) (fun q' => hb (by simp [q'])) (fun q' => hb (by simp [q'])) q) fun c hc => ⟨hn5 c hc, (hf c hc).2⟩)⟩
  unfold Builtin.List.listLengthHint
  refine wpAny_bind (wpAny_specialOf (hTy _) no_len_zip ?_)
  refine PySem.W.KFB.if_not rfl ?_
  refine PySem.W.KFB.if_not rfl ?_
  refine wpAny_bind (wpAny_specialOf (hTy _) no_hint_zip ?_)
  refine wpAny_pure ?_
  refine PySem.W.KFB.if_so rfl ?_
  refine wpAny_bind (wpAny_rule (wpAny_bind (touch_ok I2 upd_same fun s5 I5 kk => wpAny_pure ⟨plainId_quiet PySem.F.plain_extend_loop _, loop _ I5 (Z2.keep fun c hc o e => kk c o (ne5 c hc) e)⟩)))
end
section
variable {X : Cx} {Cr C f : Addr}
/-- list(zip(o, o)) -/
def tListZip (K : PySem.W.Frag) (C : Addr) (ta : TA) : TE := fun σ H Q => ta σ H fun vs H1 => ∃ a dx fs l zs, vs = [.ref a, .ref a] ∧ H1 a = some (.ins C dx fs) ∧ fs.lookup ("held_rests" : Str) = some (.ref l) ∧ H1 l = some (.lst zs) ∧ 0 < zs.length ∧ zs.length ≤ 1000 ∧
  ∀ (q : Addr) (ts : List Addr) (G : Hp), Same H1 G → G q = some (.lst (ts.map V.ref)) → ts.length = zs.length → (∀ (j : Nat) (t : Addr) (x : V), ts[j]? = some t → zs[j]? = some x → G t = some (.tup [x, x])) → Q (.ref q) G
theorem pe_listZip {e e2 : Expr} {ta : TA} {p p2 pos pos2 : Pos} (hcalm : X.calm = true) (T : Tx X.K X.mg) (J : IterK X.K X.mg Cr C f) (hr : Room 5 X.A) (hg : Gl X "list") (hg2 : Gl X "zip") (ha : PA X [e, e2] ta)
    (hs : starEach [e, e2] X.env = (false, eval e X.env) :: starEach [e2] X.env := by rfl) (hpl : (backTo pos2 (starEach [e2] X.env)).any (·.1) = false := by rfl)
    (na : starEach [.Call (.Name "zip" p2) [e, e2] [] pos2] X.env = (false, eval (.Call (.Name "zip" p2) [e, e2] [] pos2) X.env) :: starEach [] X.env := by rfl) :
    PE X (.Call (.Name "list" p) [.Call (.Name "zip" p2) [e, e2] [] pos2] [] pos) (tListZip X.K C ta) := by
  refine ⟨fun pins s σ H Q I h => ?_⟩
  refine Call_ (ld_blt I hg T.list boot_list (PyProof.Rows.callWith_type1 (args_cons (Call_ (ld_blt I hg2 T.zip PyProof.Rows.boot_zip (PyProof.Rows.callWith_type1 (thn (ha.run pos2 pins s σ H _ I h) fun us s1 ⟨vs, H1, I1, rv, q1⟩ => ?_) hs hpl))) na) na))
  obtain ⟨a, dx, fs, l, zs, rfl, h1, h2, h3, hne, hz, q⟩ := q1
  obtain ⟨u1, u2, rfl, r1, r2⟩ : ∃ u1 u2, us = [u1, u2] ∧ RelV (.ref a) u1 ∧ RelV (.ref a) u2 := by
    cases rv with
    | cons r1 rv => cases rv with
      | cons r2 rv => cases rv; exact ⟨_, _, rfl, r1, r2⟩
  cases r1
  cases r2
  refine zip_own T J hr rfl I1 h1 h2 h3 fun z TI TO i1 i2 s2 I2 hz1 hTI hTO a1 a2 D hf => args_nil ?_
  exact list_zip (T0 := 0) hcalm (I2.ok.hd hcalm) I2 ⟨hTI, a1, a2, ⟨_, hTO⟩, .inl ⟨rfl, hz1, _, _, hTO⟩⟩ D hf h3 hne hz fun q' ts G s' sG hq hl hts I' => ⟨.ref q', G, I', rfl, q q' ts G sG hq hl hts⟩
end
end RM
namespace RM
open PySem PySem.Spec PyProof.Rows L2
/-! ### what may be shown -/
def showB (d : PyData) : Bool := isDispD d && (d.showable && (d.layable0 && (decide (d.depth ≤ 60) && d.intsShort 13)))
theorem shows_of {d : PyData} (h : showB d = true) : Shows d := by
  unfold showB at h
  simp only [Bool.and_eq_true, decide_eq_true_eq] at h
  obtain ⟨h1, h2, h3, h4, h5⟩ := h
  have h6 := shown_le13 h3 h5
  have h7 : d.canLay0 = true := by
    unfold PyData.layable0 at h3
    simp only [Bool.and_eq_true] at h3
    exact h3.1.1
  exact ⟨.inr h1, h2, h7, h4, by rw [sizeLine_eq]; omega⟩
theorem shows_bl (b : Bool) : Shows (.bool b) := ⟨.inl rfl, rfl, rfl, Nat.zero_le _, by cases b <;> (rw [sizeLine_eq]; decide +kernel)⟩
def dP (r : List Int) : PyData := .tuple [dT r, dT r]
def dTold (p : Nat × Nat) (Ls : List (List Int)) : PyData := .list [.int (p.1 : Int), .int (p.2 : Int), .int (Ls.length : Int), dL Ls, dL Ls]
theorem shows_told : ∀ p ∈ rules, ∀ t ∈ permsOf p.1, (showB (dTold p (moved p.1 p.2 t)) && (showB (.list ((moved p.1 p.2 t).map dP)) && (showB (.tuple ((oI t).map PyData.int)) && (decide (0 < (moved p.1 p.2 t).length) && decide ((moved p.1 p.2 t).length ≤ 8))))) = true := by decide +kernel
theorem moved_id : ∀ p ∈ rules, moved p.1 p.2 (List.range p.1) = tab p.1 p.2 ∧ (List.range p.1) ∈ permsOf p.1 ∧ (List.range p.1).reverse ∈ permsOf p.1 := by decide +kernel
theorem moved_rays : ∀ p ∈ rules, ∀ t ∈ permsOf p.1, ∀ r ∈ moved p.1 p.2 t, (!(nz r).isEmpty && (decide (r.length = p.1) && r.all fun x => decide (x.natAbs ≤ 50))) = true := by decide +kernel
/-- all of a class -/
structure RuleK (P : Program) (w : World) (K : PySem.W.Frag) (mg : Str → Option Value) (base : Heap) (Cr C : Addr) : Prop where
  rc : RCls K Cr C
  size : ∃ p g fd, PropOf K C "size_now" p g ∧ FnOk P w K mg base CX0 1 g fd ["self"] (spSizeM (K := K) Cr) ∧ Binds K fd ["self"] []
  mod : ∃ p g fd, PropOf K C "modulus_now" p g ∧ FnOk P w K mg base CX0 1 g fd ["self"] (spModM (K := K) Cr) ∧ Binds K fd ["self"] []
  len : ∃ f fd, SpecOf K C "__len__" f ∧ FnOk P w K mg base CX0 1 f fd ["self"] (spLenM (K := K) Cr) ∧ Binds K fd ["self"] []
  iter : ∃ f, IterK K mg Cr C f
  con : ∃ f fd, SpecOf K C "__contains__" f ∧ FnOk P w K mg base CX0 6 f fd ["self", "thing"] (spConM (K := K) Cr) ∧ Binds K fd ["self", "thing"] []
  call : ∃ f fd, StX.CallO K C f ∧ FnOk P w K mg base CX0 6 f fd ["self", "ray"] (spCallM (K := K) Cr) ∧ Binds K fd ["self", "ray"] [] ∧ KwBind fd ["self", "ray"] "ray"
  taken : ∃ f fd, Meth K C "taken" f ∧ FnOk P w K mg base CX0 6 f fd ["self", "lot"] (spTaken (K := K) Cr) ∧ Binds K fd ["self", "lot"] [] ∧ KwBind fd ["self", "lot"] "lot"
theorem dp_pairs {K : PySem.W.Frag} {G : Hp} : ∀ {zs : List V} {Ls : List (List Int)} {ts : List Addr}, Paired (gT K G) zs Ls → ts.length = zs.length → (∀ (j : Nat) (t : Addr) (x : V), ts[j]? = some t → zs[j]? = some x → G t = some (.tup [x, x])) → DpAll K G (ts.map V.ref) (Ls.map dP)
  | _, _, [], .nil, _, _ => .nil
  | _, _, _ :: _, .nil, h, _ => by cases h
  | _, _, [], .cons _ _, h, _ => by cases h
  | _, _, t :: ts, .cons h tl, hl, ht => .cons (.tup (SqT.of (ht 0 t _ rfl rfl)) (.cons (dp_tup h) (.cons (dp_tup h) .nil))) (dp_pairs tl (Nat.succ.inj hl) fun j t x h1 h2 => ht (j + 1) t x h1 h2)
def gP (K : PySem.W.Frag) : Hp → V → List Int → Prop := fun H v r => ∃ t x, v = .ref t ∧ SqT K H t [x, x] ∧ TupI K H x r
theorem stbP {K : PySem.W.Frag} {D : Addr} : Stb D (gP K) := by
  rintro H H' v r ys ⟨t, x, rfl, q, h⟩ e n
  exact ⟨t, x, rfl, sqT_kb q e n, tupI_kb h e n⟩
theorem dp_gP {K : PySem.W.Frag} {H : Hp} : ∀ {vs : List V} {Ls : List (List Int)}, Paired (gP K H) vs Ls → DpAll K H vs (Ls.map dP)
  | _, _, .nil => .nil
  | _, _, .cons ⟨t, x, e, q, h⟩ tl => .cons (by rw [e]; exact .tup q (.cons (dp_tup h) (.cons (dp_tup h) .nil))) (dp_gP tl)
section
variable {P : Program} {w : World} {K : PySem.W.Frag} {mg : Str → Option Value} {base : Heap} {Cr : Addr}
/-! _law_same: 45 -/
def spSame : Sp := fun vs H Q _ => ∃ x y d, vs = [x, y] ∧ Dp K H x d ∧ Dp K H y d ∧ Shows d ∧ Q (.bl true) H
theorem sc_same : FnScope ["_law_told", "_law_due"] ["_law_told", "_law_due"] (defScope (top 45)) := ⟨rfl, rfl, rfl, by decide +kernel, rfl, by decide +kernel, by decide +kernel⟩
theorem c_same (T : Tx K mg) (D : DefAt K mg "_law_same" (top 45)) : CalG P w K mg base "_law_same" 1 ["_law_told", "_law_due"] (spSame (K := K)) := by
  refine calG_mk D sc_same (fun _ _ _ _ _ _ us hl => match us, hl with | [_, _], _ => rfl) (fun vs H Q E h => ?_) (fun cdv f A hg outer s H vs Q hr h => ?_)
  · obtain ⟨x, y, d, rfl, _⟩ := h
    rfl
  · obtain ⟨x, y, d, rfl, hx, hy, S, k⟩ := h
    have hu : (A.deeper (envOfC "_law_same" (defScope (top 45)) s.heap.objs.size f cdv)).units + 64 < cLine := hr.units
    refine ⟨_, pss_one (ps_ret (pe_cmpR op_eq (pe_callB (call_reprD hg hu) (by rfl) T.repr rfl (pa_cons (pv 0) pa_nil)) (pe_callB (call_reprD hg hu) (by rfl) T.repr rfl (pa_cons (pv 1) pa_nil)) (nomark _))), ?_⟩
    refine ⟨_, rfl, x, d, rfl, hx, S, _, rfl, y, d, rfl, hy, S, rfl, ?_⟩
    rw [decide_eq_true rfl]
    exact k
/-! _law_is_told: 62 -/
def spTold (P : Program) (w : World) (mg : Str → Option Value) (base : Heap) (Cr : Addr) : Sp := fun vs H Q _ => ∃ (C a : Addr) (p : Nat × Nat) (t : List Nat) (v : V), RuleK P w K mg base Cr C ∧ vs = [.ref a, .int (p.1 : Int), .int (p.2 : Int), v] ∧ p ∈ rules ∧ Ru K C H a p.1 p.2 (moved p.1 p.2 t) ∧ TupI K H v (oI t) ∧ t ∈ permsOf p.1 ∧ ∀ H', Same H H' → Q (.bl true) H'
def nTold : List Str := ["_law_one", "_law_wide", "_law_way", "_law_turn", "_law_due", "_law_each"]
theorem sc_told : FnScope nTold ["_law_one", "_law_wide", "_law_way", "_law_turn"] (defScope (top 62)) := ⟨rfl, rfl, rfl, by decide +kernel, rfl, by decide +kernel, by decide +kernel⟩
theorem c_told (T : Tx K mg) (D : DefAt K mg "_law_is_told" (top 62)) (C1 : Cal P w K mg base "_law_moved" 2 ["_law_wide", "_law_way", "_law_turn"] (spMoved (K := K))) (C2 : CalG P w K mg base "_law_same" 1 ["_law_told", "_law_due"] (spSame (K := K))) :
    CalG P w K mg base "_law_is_told" 7 ["_law_one", "_law_wide", "_law_way", "_law_turn"] (spTold (K := K) P w mg base Cr) := by
  refine calG_mk D sc_told (fun _ _ _ _ _ _ us hl => match us, hl with | [_, _, _, _], _ => rfl) (fun vs H Q E h => ?_) (fun cdv f A hg outer s H vs Q hr h => ?_)
  · obtain ⟨C, a, p, t, v, _, rfl, _⟩ := h
    rfl
  · obtain ⟨C, a, p, t, v, RK, rfl, hp, ru, hv, ht, k⟩ := h
    obtain ⟨pS, gS, fdS, prS, FS, bS⟩ := RK.size
    obtain ⟨pM, gM, fdM, prM, FM, bM⟩ := RK.mod
    obtain ⟨fL, fdL, spL, FL, bL⟩ := RK.len
    obtain ⟨fI, JI⟩ := RK.iter
    have FLr := FnOk.raw FL bL .nil
    have st := shows_told p hp t ht
    simp only [Bool.and_eq_true, decide_eq_true_eq] at st
    obtain ⟨st1, st2, _, st4, st5⟩ := st
    refine ⟨_, pss_cons (ps_set (i := 4) sc_told.nd rfl (Or.inl rfl) (pe_cal C1 (hr.mono (by decide)) (pa_cons (pv 1) (pa_cons (pv 2) (pa_cons (pv 3) pa_nil)))))
      (pss_cons (ps_if (pt_not (pt_val (pe_calG C2 hg (hr.mono (by decide)) (pa_cons (pe_lst (pa_cons (pe_prop (pv 0) RK.rc.cls prS FS (hr.mono (by decide)) bS .nil pass0 rfl) (pa_cons (pe_prop (pv 0) RK.rc.cls prM FM (hr.mono (by decide)) bM .nil pass0 rfl)
          (pa_cons (pe_callB (call_lenO FLr (hr.mono (by decide))) (by rfl) T.len rfl (pa_cons (pv 0) pa_nil)) (pa_cons (pe_callTy (call_listO rfl T JI FLr (hr.mono (by decide))) (by rfl) T.list rfl (pa_cons (pv 0) pa_nil))
          (pa_cons (pe_lc (own := [("_law_each", 5)]) (g := gName 5) (tt := tYes) (te := tVar 5) rfl sc_told.nd (pi_own T JI (hr.mono (by decide)) (pv 0)) (blkOk_by (N := nTold) (sc := defScope (top 62)) (by decide +kernel)) (fun _ _ _ _ _ => pg_name (i := 5) sc_told.nd rfl (Or.inl rfl)) (fun _ _ _ _ _ => pts_nil) (fun _ _ _ _ _ => pv 5)) pa_nil))))))
          (pa_cons (pe_lst (pa_cons (pv 1) (pa_cons (pv 2) (pa_cons (pe_callB call_len (by rfl) T.len rfl (pa_cons (pv 4) pa_nil)) (pa_cons (pv 4) (pa_cons (pv 4) pa_nil)))))) pa_nil))))) (pss_one (ps_ret pe_bl)) pss_nil)
      (pss_one (ps_ret (pe_calG C2 hg (hr.mono (by decide)) (pa_cons (pe_listZip rfl T JI (hr.mono (by decide)) (by rfl) (by rfl) (pa_cons (pv 0) (pa_cons (pv 0) pa_nil)))
        (pa_cons (pe_lc (own := [("_law_each", 5)]) (g := gName 5) (tt := tYes) (te := tTup (tCons (tVar 5) (tCons (tVar 5) tNil))) rfl sc_told.nd (pi_list (pv 4)) (blkOk_by (N := nTold) (sc := defScope (top 62)) (by decide +kernel)) (fun _ _ _ _ _ => pg_name (i := 5) sc_told.nd rfl (Or.inl rfl)) (fun _ _ _ _ _ => pts_nil) (fun _ _ _ _ _ => pe_tup (pa_cons (pv 5) (pa_cons (pv 5) pa_nil)))) pa_nil)))))), ?_⟩
    refine ⟨_, rfl, _, rfl, _, rfl, p, t, v, rfl, hp, hv, ht, fun H1 dA ys s1 hdA prD => ?_⟩
    have ru1 := ru_same ru s1
    obtain ⟨dx, fs, l, zs, h1, h2, h3, h4, h5, h6, h7⟩ := id ru1
    have hzl := h6.length
    have hz8 : (moved p.1 p.2 t).length ≤ sizeLine := by rw [sizeLine_eq]; omega
    refine ⟨_, rfl, a, dx, fs, rfl, h1, C, a, _, _, _, RK.rc, rfl, ru1, _, rfl, a, dx, fs, rfl, h1, C, a, _, _, _, RK.rc, rfl, ru1, _, rfl, a, C, dx, fs, rfl, h1, spL, C, a, _, _, _, RK.rc, rfl, ru1, (moved p.1 p.2 t).length, rfl, hz8,
      _, rfl, a, dx, fs, l, zs, rfl, h1, h4, h5, by omega, spL, fun H' s' => ⟨C, a, _, _, _, RK.rc, rfl, ru_same ru1 s', by rw [hzl], rfl⟩, fun q hq => ?_⟩
    have s2 : Same H1 (upd H1 q (.lst zs)) := same_upd hq
    refine ⟨_, rfl, a, dx, fs, l, zs, rfl, s2 _ _ h1, h4, s2 _ _ h5, fun D hD => lcL (G := gT K) (pr_same h6 s2) (SqL.of (s2 _ _ h5)) hD hz8 stbT (p := fun _ => true) (f := fun x => x) (lcT_yes fun _ => rfl) ?_ ?_⟩
    · rintro x r _ hx _ H' s' Q q
      exact ⟨_, rfl, q _ _ (fun _ _ e => e) (tupI_same hx s')⟩
    intro H3 zs3 s3 hd3 pr3
    rw [filter_true, List.map_id'] at pr3
    refine ⟨by show 5 ≤ sizeLine; decide, fun L1 hL1 => ⟨_, rfl, _, rfl, _, rfl, _, _, rfl, .inl ⟨_, SqL.of ((same_upd hL1) _ _ (s3 _ _ (s2 _ _ hdA))), rfl⟩, _, rfl, _, rfl, by show 5 ≤ sizeLine; decide, fun L2 hL2 => ?_⟩⟩
    have s4 := same_upd (o := .lst [.int (p.1 : Int), .int (p.2 : Int), .int ((moved p.1 p.2 t).length : Int), .ref q, .ref D]) hL1
    have s5 := same_upd (o := .lst [.int (p.1 : Int), .int (p.2 : Int), .int (ys.length : Int), .ref dA, .ref dA]) hL2
    have s345 := (s3.trans s4).trans s5
    have hyl := prD.length
    refine ⟨.ref L1, .ref L2, dTold p (moved p.1 p.2 t), rfl, .lst (SqL.of (s5 _ _ upd_same)) (.cons (.int _) (.cons (.int _) (.cons (.int _) (.cons (dp_list (SqL.of (s345 _ _ upd_same)) (pr_same h6 (s2.trans s345))) (.cons (dp_list (SqL.of (s5 _ _ (s4 _ _ hd3))) (pr_same pr3 (s4.trans s5))) .nil))))),
      .lst (SqL.of upd_same) (.cons (.int _) (.cons (.int _) (.cons (by rw [hyl]; exact .int _) (.cons (dp_list (SqL.of (s345 _ _ (s2 _ _ hdA))) (pr_same prD (s2.trans s345))) (.cons (dp_list (SqL.of (s345 _ _ (s2 _ _ hdA))) (pr_same prD (s2.trans s345))) .nil))))), shows_of st1, true, rfl, ite_f rfl ?_⟩
    have sA := s2.trans s345
    refine ⟨_, rfl, _, rfl, a, dx, fs, l, zs, rfl, sA _ _ h1, h4, sA _ _ h5, by omega, by omega, fun q2 ts G sG hq2 hl2 hts => ?_⟩
    have sB := sA.trans sG
    refine ⟨_, rfl, dA, rfl, ⟨_, SqL.of (sB _ _ hdA)⟩, fun D3 hD3 => lcL (G := gP K) (pr_same prD sB) (SqL.of (sB _ _ hdA)) hD3 hz8 stbP (p := fun _ => true) (f := fun x => x) (lcT_yes fun _ => rfl) ?_ ?_⟩
    · rintro x r _ hx _ H' s' Q q
      exact ⟨_, rfl, _, rfl, by show 2 ≤ sizeLine; decide, fun p' hp' => q _ _ (same_upd hp') ⟨p', x, rfl, SqT.of upd_same, tupI_same hx (s'.trans (same_upd hp'))⟩⟩
    · intro H6 ws s6 hd6 pr6
      rw [filter_true, List.map_id'] at pr6
      refine ⟨.ref q2, .ref D3, .list ((moved p.1 p.2 t).map dP), rfl, .lst (SqL.of (s6 _ _ hq2)) (dp_pairs (pr_same h6 (sB.trans s6)) hl2 fun j t x h1 h2 => s6 _ _ (hts j t x h1 h2)), .lst (SqL.of hd6) (dp_gP pr6), shows_of st2, k _ ((s1.trans sB).trans s6)⟩
end
end RM
namespace RM
open PySem PySem.Spec PyProof.Rows L2
/-- rays of the size -/
structure RayOk (n : Nat) (r : List Int) : Prop where
  ray : isRay r = true
  len : r.length = n
  sm : Sm 1000 r
theorem RayOk.far {n : Nat} {r : List Int} (h : RayOk n r) : Far r := fun x hx => by
  have := h.sm x hx
  omega
theorem RayOk.meant {n m : Nat} {r : List Int} (h : RayOk n r) : meant n m r = ruled m r := by
  unfold RM.meant
  rw [h.ray, h.len]
  simp
theorem made_ok {n : Nat} {r : List Int} (h : nz r ≠ []) (l : r.length = n) (s : Sm 1000 r) : RayOk n (made r) := ⟨made_ray h, (made_length r).trans l, made_small h s⟩
theorem rep_zero (n : Nat) : (List.replicate ((n : Nat) : Int).toNat [V.int 0]).flatten = (List.replicate n (0 : Int)).map V.int := by
  rw [Int.toNat_natCast, List.map_replicate]
  induction n with
  | zero => rfl
  | succ n ih => rw [List.replicate_succ, List.flatten_cons, ih, List.replicate_succ]; rfl
theorem shows_bb (b : Bool) : Shows (.list [.bool b, .bool b]) := by cases b <;> exact shows_of (by decide +kernel)
theorem axes_ok : ∀ p ∈ rules, ((axesL p.1).all fun r => isRay r && (decide (r.length = p.1) && r.all fun x => decide (x.natAbs ≤ 1000))) = true := by decide
theorem rayOk_of {n : Nat} {r : List Int} (h : (isRay r && (decide (r.length = n) && r.all fun x => decide (x.natAbs ≤ 1000))) = true) : RayOk n r := by
  simp only [Bool.and_eq_true, decide_eq_true_eq, List.all_eq_true] at h
  exact ⟨h.1, h.2.1, h.2.2⟩
theorem nz_of {n : Nat} {ns : List Int} (hl : ns.length = n) (h : ns ≠ List.replicate n 0) : nz ns ≠ [] := by
  intro e
  apply h
  refine List.eq_replicate_iff.mpr ⟨hl, fun x hx => ?_⟩
  have := List.filter_eq_nil_iff.mp e x hx
  simpa using this
section
variable {P : Program} {w : World} {K : PySem.W.Frag} {mg : Str → Option Value} {base : Heap} {Cr : Addr}
/-! _law_are_rays_right: 63 -/
def spRays (P : Program) (w : World) (mg : Str → Option Value) (base : Heap) (Cr : Addr) : Sp := fun vs H Q _ => ∃ (C a d c : Addr) (p : Nat × Nat) (t : List Nat) (v : V), RuleK P w K mg base Cr C ∧ vs = [.ref d, .ref a, .int (p.1 : Int), .int (p.2 : Int), v] ∧ Spr H d c ∧ p ∈ rules ∧ Ru K C H a p.1 p.2 (moved p.1 p.2 t) ∧ TupI K H v (oI t) ∧ t ∈ permsOf p.1 ∧ ∀ H', Kb d H H' → Spr H' d c → Q (.bl true) H'
def nRays : List Str := ["_law_spring_here", "_law_one", "_law_wide", "_law_way", "_law_turn", "_law_some", "_law_lap", "_law_most", "_law_entries", "_law_beam", "_law_is_for_here", "_law_rests_here", "_law_k"]
theorem sc_rays : FnScope nRays ["_law_spring_here", "_law_one", "_law_wide", "_law_way", "_law_turn"] (defScope (top 63)) := ⟨rfl, rfl, rfl, by decide +kernel, rfl, by decide +kernel, by decide +kernel⟩
theorem c_rays (T : Tx K mg) (D : DefAt K mg "_law_are_rays_right" (top 63)) (C1 : Cal P w K mg base "_law_moved" 2 ["_law_wide", "_law_way", "_law_turn"] (spMoved (K := K))) (C2 : CalG P w K mg base "_law_same" 1 ["_law_told", "_law_due"] (spSame (K := K)))
    (C3 : Cal P w K mg base "_law_made" 3 ["_law_entries"] (spMade (K := K))) (C4 : Cal P w K mg base "_law_pick" 2 ["_law_spring_here", "_law_some"] (spPick (K := K))) (C5 : Cal P w K mg base "_law_dip" 1 ["_law_spring_here", "_law_limit"] spDip)
    (C6 : Cal P w K mg base "_law_axes" 1 ["_law_wide"] (spAxes (K := K))) (C7 : Cal P w K mg base "_law_is_for" 2 ["_law_way", "_law_beam"] (spRuled (K := K))) (C8 : Cal P w K mg base "_law_marks_of" 2 ["_law_way", "_law_turn", "_law_beam"] (spMarks (K := K))) :
    CalG P w K mg base "_law_are_rays_right" 8 ["_law_spring_here", "_law_one", "_law_wide", "_law_way", "_law_turn"] (spRays (K := K) P w mg base Cr) := by
  refine calG_mk D sc_rays (fun _ _ _ _ _ _ us hl => match us, hl with | [_, _, _, _, _], _ => rfl) (fun vs H Q E h => ?_) (fun cdv f A hg outer s H vs Q hr h => ?_)
  · obtain ⟨C, a, d, c, p, t, v, _, rfl, _⟩ := h
    rfl
  · obtain ⟨C, a, d, c, p, t, v, RK, rfl, hs, hp, ru, hv, ht, k⟩ := h
    obtain ⟨fC, fdC, spC, FC, bC⟩ := RK.con
    obtain ⟨fA, fdA, cA, FA, bA, kbA⟩ := RK.call
    have FCr := FnOk.raw FC bC .nil
    have FAr := FnOk.raw FA bA .nil
    refine ⟨_, pss_cons (ps_setLc (i := 5) (own := [("_law_rests_here", 11)]) (g := gName 11) (tt := tYes) (te := tCall (spMade (K := K)) [] E0 (tCons (tVar 11) tNil)) rfl sc_rays.nd rfl rfl (sw_true rfl rfl rfl (by decide +kernel)) (pi_list (pe_cal C1 (hr.mono (by decide)) (pa_cons (pv 2) (pa_cons (pv 3) (pa_cons (pv 4) pa_nil))))) (blkOk_by (N := nRays) (sc := defScope (top 63)) (by decide +kernel)) (fun _ _ _ _ _ => pg_name (i := 11) sc_rays.nd rfl (Or.inl rfl)) (fun _ _ _ _ _ => pts_nil) (fun _ _ _ _ _ => pe_cal C3 (by exact hr.mono (by decide)) (pa_cons (pv 11) pa_nil)))
      (pss_cons (ps_for PassesOwn.never rfl (pi_range1 (by rfl) T.range (pa_cons pe_int pa_nil)) (pg_name (i := 6) sc_rays.nd rfl (Or.inl rfl))
        (pss_cons (ps_set (i := 7) sc_rays.nd rfl (Or.inr rfl) (pe_cal C4 (hr.mono (by decide)) (pa_cons (pv 0) (pa_cons (pe_lst (pa_cons (pe_int) (pa_cons (pe_int) (pa_cons (pe_int) (pa_cons (pe_int) pa_nil))))) pa_nil))))
      (pss_cons (ps_setLc (i := 8) (own := [("_law_k", 12)]) (g := gName 12) (tt := tYes) (te := tOp (rI0 fun i j => .int (i - j)) (tCall spDip [] E0 (tCons (tVar 0) (tCons (tOp (rI0 fun i j => .int (i + j)) (tOp (rI CMul fun i j => .int (i * j)) (tC (.int 2)) (tVar 7)) (tC (.int 1))) tNil))) (tVar 7)) rfl sc_rays.nd rfl rfl (sw_true rfl rfl rfl (by decide +kernel)) (pi_range1 (by rfl) T.range (pa_cons (pv 2) pa_nil)) (blkOk_by (N := nRays) (sc := defScope (top 63)) (by decide +kernel)) (fun _ _ _ _ _ => pg_name (i := 12) sc_rays.nd rfl (Or.inl rfl)) (fun _ _ _ _ _ => pts_nil) (fun _ _ _ _ _ => pe_op op_sub (pe_cal C5 (by exact hr.mono (by decide)) (pa_cons (pv 0) (pa_cons (pe_op op_add (pe_op op_mul pe_int (pv 7)) pe_int) pa_nil))) (pv 7)))
      (pss_one (ps_expr (pe_bm PySem.F.plainAttrs_list PySem.F.slot_list_append PySem.F.type_list_append mt_append (pv 5) (pa_cons (pe_ifExp (pt_cmpR (op_neD hr.units) (pv 8) (pe_op op_rep (pe_lst (pa_cons pe_int pa_nil)) (pv 2)) (nomark _)) (pe_cal C3 (hr.mono (by decide)) (pa_cons (pv 8) pa_nil)) (pe_ix ix_list (pe_cal C6 (hr.mono (by decide)) (pa_cons (pv 2) pa_nil)) pe_int (fun _ _ => rfl))) pa_nil)))))))
      (pss_cons (ps_for PassesOwn.never rfl (pi_list (pv 5)) (pg_name (i := 9) sc_rays.nd rfl (Or.inl rfl))
        (pss_cons (ps_set (i := 10) sc_rays.nd rfl (Or.inl rfl) (pe_cal C7 (hr.mono (by decide)) (pa_cons (pv 3) (pa_cons (pv 9) pa_nil))))
      (pss_cons (ps_if (pt_not (pt_val (pe_calG C2 hg (hr.mono (by decide)) (pa_cons (pe_cmpR (op_inO FCr (hr.mono (by decide))) (pv 9) (pv 1) rfl) (pa_cons (pv 10) pa_nil))))) (pss_one (ps_ret pe_bl)) pss_nil)
      (pss_one (ps_if (PW.pt (pw_and (pt_val (pv 10)) (pw_and1 (pt_not (pt_val (pe_calG C2 hg (hr.mono (by decide)) (pa_cons (pe_lst (pa_cons (StX.pe_callO (pv 1) cA FAr (hr.mono (by decide)) pass0 (pa_cons (pv 9) pa_nil)) (pa_cons (pe_callKw (pv 1) FA kbA (hr.mono (by decide)) (pv 9)) pa_nil))) (pa_cons (pe_op op_rep (pe_lst (pa_cons (pe_cal C8 (hr.mono (by decide)) (pa_cons (pv 3) (pa_cons (pv 4) (pa_cons (pv 9) pa_nil)))) pa_nil)) pe_int) pa_nil)))))))) (pss_one (ps_ret pe_bl)) pss_nil)))))
      (pss_one (ps_ret pe_bl)))), ?_⟩
    obtain ⟨p3, p5, m2, m4⟩ := rule_small hp
    have st := shows_told p hp t ht
    simp only [Bool.and_eq_true, decide_eq_true_eq] at st
    obtain ⟨_, _, _, _, st5⟩ := st
    have O := ord_of hp ht
    refine ⟨_, rfl, _, rfl, _, rfl, p, t, v, rfl, hp, hv, ht, fun H1 dA ys s1 hdA prD => ⟨dA, rfl, ⟨_, SqL.of hdA⟩, fun S hS => lcL (G := gT K) prD (SqL.of hdA) hS (by rw [sizeLine_eq]; omega) stbT (p := fun _ => true) (f := made) (lcT_yes fun _ => rfl) ?_ ?_⟩⟩
    · rintro x r hr2 hx _ H' s' Q q
      have mr := moved_rays p hp t ht r hr2
      simp only [Bool.and_eq_true, decide_eq_true_eq, List.all_eq_true, Bool.not_eq_true', List.isEmpty_eq_false_iff] at mr
      obtain ⟨t', rfl, qt⟩ := tupI_same hx s'
      exact ⟨_, rfl, .ref t', r, rfl, ⟨t', rfl, .inr qt⟩, fun y hy => Nat.le_trans (mr.2.2 y hy) (by decide), by rw [mr.2.1, sizeLine_eq]; omega, mr.1, fun H2 y s2 hy => q _ _ s2 hy⟩
    intro H2 zs s2 hdS prS
    rw [filter_true] at prS
    have s12 := s1.trans s2
    have hs1 := spr_same hs s1
    obtain ⟨ndS, ncS⟩ := spr_ne hs1 hS
    have hSH : H S = none := by
      cases e : H S with
      | none => rfl
      | some o => rw [s1 _ _ e] at hS; cases hS
    have hR0 : ∀ r ∈ (moved p.1 p.2 t).map made, RayOk p.1 r := by
      intro r hr2
      obtain ⟨r0, hr0, rfl⟩ := List.mem_map.mp hr2
      have mr := moved_rays p hp t ht r0 hr0
      simp only [Bool.and_eq_true, decide_eq_true_eq, List.all_eq_true, Bool.not_eq_true', List.isEmpty_eq_false_iff] at mr
      exact made_ok mr.1 mr.2.1 fun y hy => Nat.le_trans (mr.2.2 y hy) (by decide)
    refine ⟨6, rfl, by decide, by decide, for_range (n := 6) (fun j σ H' => ∃ (o6 o7 o8 : Option V) (acc : List V) (Rs : List (List Int)), σ = [some (.ref d), some (.ref a), some (.int (p.1 : Int)), some (.int (p.2 : Int)), some v, some (.ref S), o6, o7, o8, none, none, none, none] ∧ (∀ b o, H b = some o → b ≠ d → H' b = some o) ∧ Spr H' d c ∧ H' S = some (.lst acc) ∧ Paired (gT K H') acc Rs ∧ (∀ r ∈ Rs, RayOk p.1 r) ∧ acc.length ≤ 8 + j)
      ⟨none, none, none, zs, _, rfl, fun b o e _ => s12 b o e, spr_same hs s12, hdS, prS, hR0, by rw [prS.length, List.length_map]; omega⟩ ?_ ?_⟩
    · rintro j σ H3 hj ⟨o6, o7, o8, acc, Rs, rfl, kb3, hs3, hS3, pr3, hR3, hl3⟩
      refine ⟨_, rfl, by show 4 ≤ sizeLine; decide, fun L hL => ⟨d, c, L, [1, 2, 9, 50], rfl, spr_same hs3 (same_upd hL), SqL.of upd_same, by decide, by decide, fun most H4 hm kb4 hs4 => ?_⟩⟩
      have hm' : 1 ≤ most ∧ most ≤ 50 := by
        have : ∀ x ∈ ([1, 2, 9, 50] : List Int), 1 ≤ x ∧ x ≤ 50 := by decide
        exact this most hm
      have sL := same_upd (o := .lst [.int 1, .int 2, .int 9, .int 50]) hL
      have hsL := spr_same hs3 sL
      have hS4 := lst_spr (sL _ _ hS3) hsL kb4
      have pr4 := pr_spr (pr_same pr3 sL) hsL kb4
      have kbH4 : ∀ b o, H b = some o → b ≠ d → H4 b = some o := fun b o e nb => kb4 _ _ (sL _ _ (kb3 b o e nb)) nb
      refine ⟨_, rfl, (p.1 : Int), rfl, by omega, by omega, fun D hD => ?_⟩
      rw [Int.toNat_natCast]
      obtain ⟨ndD, ncD⟩ := spr_ne hs4 hD
      refine lc_range (g := gName 12) (vs := [12]) (lo := 0) (n := p.1) (fun i G => (∀ b o, H4 b = some o → b ≠ d → G b = some o) ∧ Spr G d c ∧ ∃ es : List Int, G D = some (.lst (es.map V.int)) ∧ es.length = i ∧ Sm 50 es) ⟨fun b o e _ => same_upd hD b o e, spr_same hs4 (same_upd hD), [], upd_same, rfl, fun x hx => absurd hx (by simp)⟩ ?_ ?_
      · rintro i G hi ⟨kbG, hsG, es, hes, hel, hsm⟩
        refine ⟨rfl, ?_⟩
        unfold tYes
        refine ite_t rfl ⟨_, rfl, _, rfl, 2, most, rfl, rfl, .inl ⟨by decide, by decide⟩, _, 1, rfl, rfl, d, c, _, rfl, hsG, by omega, by omega, fun r G2 hr0 hr1 kb2 hs2 => ⟨_, rfl, r, most, rfl, rfl, es.map V.int, lst_spr hes hsG kb2, by rw [List.length_map, sizeLine_eq]; omega, fun b o e nb => ?_, spr_kb hs2 Kb.upd ndD ncD, es ++ [r - most], by rw [upd_same, List.map_append]; rfl, by rw [List.length_append, hel]; rfl, fun x hx => ?_⟩⟩
        · rw [upd_ne (ne_of_none e hD)]
          exact kb2 _ _ (kbG b o e nb) nb
        · rcases List.mem_append.mp hx with q | q
          · exact hsm x q
          · rw [List.mem_singleton.mp q]; omega
      · rintro G ⟨kbG, hsG, es, hes, hel, hsm⟩
        have hSG := lst_spr hS4 hs4 kbG
        have prG := pr_spr pr4 hs4 kbG
        have fin : ∀ (H8 : Hp) (y : V) (r : List Int), Same G H8 → TupI K H8 y r → RayOk p.1 r → rAppend (.ref S) [y] H8 fun _ H9 => ∃ (o6 o7 o8 : Option V) (acc : List V) (Rs : List (List Int)), [some (.ref d), some (.ref a), some (.int (p.1 : Int)), some (.int (p.2 : Int)), some v, some (.ref S), some (.int (0 + (j : Int))), some (.int most), some (.ref D), none, none, none, none] = [some (.ref d), some (.ref a), some (.int (p.1 : Int)), some (.int (p.2 : Int)), some v, some (.ref S), o6, o7, o8, none, none, none, none] ∧ (∀ b o, H b = some o → b ≠ d → H9 b = some o) ∧ Spr H9 d c ∧ H9 S = some (.lst acc) ∧ Paired (gT K H9) acc Rs ∧ (∀ r ∈ Rs, RayOk p.1 r) ∧ acc.length ≤ 8 + (j + 1) := by
          intro H8 y r s8 hy hr2
          refine ⟨S, acc, y, rfl, rfl, s8 _ _ hSG, by rw [sizeLine_eq]; omega, _, _, _, acc ++ [y], Rs ++ [r], rfl, fun b o e nb => ?_, spr_kb (spr_same hsG s8) Kb.upd ndS ncS, upd_same, ?_, fun q hq => ?_, by rw [List.length_append]; show acc.length + 1 ≤ _; omega⟩
          · rw [upd_ne (ne_of_none e hSH)]
            exact s8 _ _ (kbG _ _ (kbH4 b o e nb) nb)
          · exact pr_append (pr_ext (pr_same prG s8) fun x y _ g => stbT _ _ _ _ _ g Kb.upd (s8 _ _ hSG)) (.cons (stbT _ _ _ _ _ hy Kb.upd (s8 _ _ hSG)) .nil)
          · rcases List.mem_append.mp hq with m | m
            · exact hR3 q m
            · rw [List.mem_singleton.mp m]; exact hr2
        refine ⟨_, rfl, .inl ⟨rfl, _, SqL.of hSG⟩, _, rfl, by show 1 ≤ sizeLine; decide, fun Z hZ => ⟨_, rfl, Z, (p.1 : Int), [.int 0], rfl, rfl, upd_same, by omega, by omega, by rw [sizeLine_eq, Int.toNat_natCast]; show 1 * p.1 ≤ _; omega, fun M hM => ?_⟩⟩
        have sM := (same_upd (o := .lst [.int 0]) hZ).trans (same_upd (o := .lst (List.replicate ((p.1 : Nat) : Int).toNat [V.int 0]).flatten) hM)
        refine ⟨.list (es.map PyData.int), .list ((List.replicate p.1 (0 : Int)).map PyData.int), .lst (SqL.of (sM _ _ hes)) (dp_ints _), .lst (SqL.of (by rw [upd_same, rep_zero])) (dp_ints _), shp_ints _, shp_ints _, _, rfl, ?_⟩
        rw [show PyData.eqv (.list (es.map PyData.int)) (.list ((List.replicate p.1 (0 : Int)).map PyData.int)) = decide (es = List.replicate p.1 0) from eqv_ints _ _]
        by_cases hz0 : es = List.replicate p.1 0
        · refine ite_f (by rw [decide_eq_true hz0]; rfl) ⟨_, rfl, p.1, rfl, p5, fun H8 X xs s8 hX pX => ?_⟩
          have hax := axes_ok p hp
          cases eA : axesL p.1 with
          | nil =>
            have := congrArg List.length eA
            unfold axesL at this
            rw [List.length_map, List.length_range] at this
            have h0 : p.1 = 0 := this
            omega
          | cons r0 rest =>
            rw [eA] at pX hax
            cases pX with
            | cons hy0 tl =>
              rw [List.all_cons, Bool.and_eq_true] at hax
              exact ⟨X, _, 0, _, rfl, rfl, SqL.of hX, atI_nat (j := 0) rfl, fin H8 _ r0 (sM.trans s8) hy0 (rayOk_of hax.1)⟩
        · refine ite_t (by rw [decide_eq_false hz0]; rfl) ⟨_, rfl, .ref D, es, rfl, ⟨D, rfl, .inl (SqL.of (sM _ _ hes))⟩, fun x hx => Nat.le_trans (hsm x hx) (by decide), by rw [hel, sizeLine_eq]; omega, nz_of hel hz0, fun H8 y s8 hy => fin H8 y _ (sM.trans s8) hy (made_ok (nz_of hel hz0) hel fun x hx => Nat.le_trans (hsm x hx) (by decide))⟩
    · rintro σ H9 ⟨o6, o7, o8, acc, Rs, rfl, kb9, hs9, hS9, pr9, hR9, hl9⟩
      have ru9 : Ru K C H9 a p.1 p.2 (moved p.1 p.2 t) := ru_spr ru hs kb9
      have hv9 : TupI K H9 v (oI t) := tupI_spr hv hs kb9
      refine ⟨_, rfl, S, rfl, ⟨_, SqL.of hS9⟩, for_list (xs := acc) (fun i σ G => ∃ (o9 o10 : Option V), σ = [some (.ref d), some (.ref a), some (.int (p.1 : Int)), some (.int (p.2 : Int)), some v, some (.ref S), o6, o7, o8, o9, o10, none, none] ∧ Same H9 G) ⟨none, none, rfl, fun _ _ e => e⟩ ?_ ?_ ?_⟩
      · rintro i σ G _ ⟨_, _, _, sG⟩
        exact SqL.of (sG _ _ hS9)
      · rintro i x σ G hx ⟨o9, o10, rfl, sG⟩
        obtain ⟨r, hr2, hxr⟩ := pr_get pr9 hx
        have RO := hR9 r (List.mem_of_getElem? hr2)
        have hz : r.length ≤ sizeLine := by rw [RO.len, sizeLine_eq]; omega
        refine ⟨_, rfl, _, rfl, x, r, p.2, rfl, tupI_same hxr sG, by omega, hz, RO.far, fun G1 g1 => ?_⟩
        have sG1 := sG.trans g1
        obtain ⟨dx, fs, l, ws, h1, h2, h3, h4, h5, h6, h7⟩ := ru_same ru9 sG1
        refine ⟨_, rfl, _, rfl, a, C, dx, fs, rfl, h1, spC, C, a, x, p.1, p.2, _, r, RK.rc, rfl, ru_same ru9 sG1, tupI_same hxr sG1, by omega, hz, RO.far, fun G2 g2 => ?_⟩
        rw [RO.meant]
        have sG2 := sG1.trans g2
        refine ⟨_, rfl, _, rfl, _, _, .bool (ruled p.2 r), rfl, .bl _, .bl _, shows_bl _, true, rfl, ite_f rfl ?_⟩
        refine ⟨_, rfl, _, rfl, ?_⟩
        cases hb : ruled p.2 r with
        | false => exact ite_f rfl ⟨some x, some (.bl false), rfl, sG2⟩
        | true =>
          obtain ⟨dx, fs, l, ws, h1, h2, h3, h4, h5, h6, h7⟩ := ru_same ru9 sG2
          have hmt : meant p.1 p.2 r = true := by rw [RO.meant, hb]
          refine ite_t rfl ⟨_, rfl, a, rfl, _, rfl, .inr ⟨dx, fs, h1⟩, C, a, x, p.1, p.2, _, r, RK.rc, rfl, ru_same ru9 sG2, tupI_same hxr sG2, by omega, hz, RO.far, hmt, fun G3 g3 => ?_⟩
          have sG3 := sG2.trans g3
          refine ⟨_, rfl, a, rfl, _, rfl, C, dx, fs, x, rfl, g3 _ _ h1, cA, C, a, x, p.1, p.2, _, r, RK.rc, rfl, ru_same ru9 sG3, tupI_same hxr sG3, by omega, hz, RO.far, hmt, fun G4 g4 => ⟨by show 2 ≤ sizeLine; decide, fun L1 hL1 => ?_⟩⟩
          rw [marks_iff hp ht RO.len]
          have sG4 := sG3.trans g4
          have l1 := same_upd (o := .lst [.bl (marked p.1 p.2 t r), .bl (marked p.1 p.2 t r)]) hL1
          have sG5 := sG4.trans l1
          refine ⟨_, rfl, _, rfl, _, rfl, p, t, r, v, x, rfl, hp, tupI_same hv9 sG5, O, tupI_same hxr sG5, RO.len, fun G5 g5 => ⟨by show 1 ≤ sizeLine; decide, fun Z hZ => ⟨Z, 2, [.bl (marked p.1 p.2 t r)], rfl, rfl, upd_same, by decide, by decide, by show 1 * 2 ≤ sizeLine; decide, fun L2 hL2 => ?_⟩⟩⟩
          have sG6 := (g5.trans (same_upd (o := .lst [.bl (marked p.1 p.2 t r)]) hZ)).trans (same_upd (o := .lst [.bl (marked p.1 p.2 t r), .bl (marked p.1 p.2 t r)]) hL2)
          exact ⟨.ref L1, .ref L2, .list [.bool (marked p.1 p.2 t r), .bool (marked p.1 p.2 t r)], rfl, .lst (SqL.of (sG6 _ _ upd_same)) (.cons (.bl _) (.cons (.bl _) .nil)), .lst (xs := [.bl (marked p.1 p.2 t r), .bl (marked p.1 p.2 t r)]) (SqL.of upd_same) (.cons (.bl _) (.cons (.bl _) .nil)), shows_bb _, true, rfl, ite_f rfl ⟨some x, some (.bl true), rfl, sG5.trans sG6⟩⟩
      · rintro σ G ⟨o9, o10, rfl, sG⟩
        exact k G (fun b o e nb => sG _ _ (kb9 b o e nb)) (spr_same hs9 sG)
end
end RM
namespace RM
open PySem PySem.Spec PyProof.Rows L2
theorem alike_ints : ∀ (a b : List Int), PySem.W.alikeAll (a.map PyData.int) (b.map PyData.int) = true
  | [], b => by cases b <;> rfl
  | _ :: _, [] => rfl
  | x :: a, y :: b => by
    show (PySem.W.alike (.int x) (.int y) && PySem.W.alikeAll (a.map PyData.int) (b.map PyData.int)) = true
    rw [alike_ints a b]
    rfl
/-- each value with its place in the sorted list -/
def enc2 (b : V × List Int) : PyData := dT b.2
theorem each_of {h : Heap} {K : PySem.W.Frag} {H : Hp} {Rd : Value → List Int → Prop} : ∀ {xs : List V} {Ls : List (List Int)} {us : List Value}, Paired (gT K H) xs Ls → Vals xs us → (∀ v u r, gT K H v r → RelV v u → Rd u r) → PySem.W.EachIs (fun (u : Value) (b : V × List Int) => (RelV b.1 u ∧ gT K H b.1 b.2) ∧ Rd u b.2) us (xs.zip Ls)
  | _, _, _, .nil, .nil, _ => .nil
  | _, _, _, .cons h t, .cons r rt, k => .cons ⟨⟨r, h⟩, k _ _ _ h r⟩ (each_of (h := ‹Heap›) t rt k)
theorem each_vals {K : PySem.W.Frag} {H : Hp} {Rd : Value → List Int → Prop} : ∀ {us : List Value} {bs : List (V × List Int)}, PySem.W.EachIs (fun (u : Value) (b : V × List Int) => (RelV b.1 u ∧ gT K H b.1 b.2) ∧ Rd u b.2) us bs → Vals (bs.map (·.1)) us ∧ Paired (gT K H) (bs.map (·.1)) (bs.map (·.2))
  | _, _, .nil => ⟨.nil, .nil⟩
  | _, _, .cons h t => ⟨.cons h.1.1 (each_vals t).1, .cons h.1.2 (each_vals t).2⟩
section
variable {X : Cx}
/-- sorted(l), l a list of tuples of ints: the same tuples in some order -/
def rSortP (K : PySem.W.Frag) : List V → Hp → VK → Prop := fun vs H Q => ∃ (a : Addr) (xs : List V) (Ls : List (List Int)), vs = [V.ref a] ∧ SqL K H a xs ∧ Paired (gT K H) xs Ls ∧ (∀ r ∈ Ls, r ≠ []) ∧
  ∀ (ys : List V) (Ms : List (List Int)) (q : Addr), Paired (gT K H) ys Ms → Ms.Perm Ls → H q = none → Q (.ref q) (upd H q (.lst ys))
theorem cr_sortP (hu : X.A.units + 64 < cLine) : CallR X (.builtin "sorted") (rSortP X.K) := by
  intro pins s σ H vs us Q I rv h
  obtain ⟨a, xs, Ls, rfl, hq, pr, hne, q⟩ := h
  obtain ⟨u, rfl, ru⟩ := vals1 rv
  cases ru
  obtain ⟨its, rits, pl, hz⟩ := I.list hq
  have er := each_of (h := s.heap) (Rd := fun u r => ∃ as, Reads s.heap u (dT r) as) pr rits fun v u r g hr => Dp.reads I (dT r) v u (dp_tup g) hr
  have hlen := pr.length
  have mem2 : ∀ d ∈ (xs.zip Ls).map enc2, ∃ r ∈ Ls, d = dT r := by
    intro d hd
    obtain ⟨b, hb, rfl⟩ := List.mem_map.mp hd
    exact ⟨b.2, (List.of_mem_zip hb).2, rfl⟩
  refine PySem.W.sorted_data (enc := enc2) (bs := xs.zip Ls) (R := fun (u : Value) (b : V × List Int) => (RelV b.1 u ∧ gT X.K H b.1 b.2) ∧ ∃ as, Reads s.heap u (dT b.2) as) pl.isList er (er.mono fun _ _ z => z.2) ?_ (.inl ?_) ?_ ?_ fun out ho eo => ?_
  · intro d hd d' hd'
    obtain ⟨r, _, rfl⟩ := mem2 d hd
    obtain ⟨r', _, rfl⟩ := mem2 d' hd'
    exact alike_ints r r'
  · intro d hd
    obtain ⟨r, hr, rfl⟩ := mem2 d hd
    cases r with
    | nil => exact absurd rfl (hne _ hr)
    | cons x r => exact ⟨.int x, r.map PyData.int, rfl⟩
  · rw [List.length_zip]; omega
  · intro b hb
    have : (enc2 b).depth = 1 := by
      show PyData.depthAll (b.2.map PyData.int) + 1 = 1
      rw [dep_ints]
    omega
  · obtain ⟨v1, p1⟩ := each_vals (Rd := fun u r => ∃ as, Reads s.heap u (dT r) as) eo
    have pm := List.mergeSort_perm (xs.zip Ls) (PySem.W.dataLe false enc2)
    obtain ⟨ep, he'⟩ := PyProof.Rows.sortedAll_at s.heap its (List.toArray out)
    have hl1 : ((List.mergeSort (xs.zip Ls) (PySem.W.dataLe false enc2)).map (·.1)).length ≤ sizeLine := by
      rw [List.length_map, pm.length_eq, List.length_zip]; omega
    refine ⟨.ref _, upd H (s.heap.objs.size + 1) (.lst ((List.mergeSort (xs.zip Ls) (PySem.W.dataLe false enc2)).map (·.1))), I.laid (t' := s.toks) (fun _ _ => PyProof.Rows.sortedAll_old) (Nat.le_succ _) ⟨hl1, out, ep, v1, he'⟩, rfl, q _ _ _ p1 ?_ (I.hok.fresh (Nat.le_succ _))⟩
    refine (pm.map (·.2)).trans ?_
    rw [List.map_snd_zip (by omega)]
/-- x in t, t a tuple of data -/
def rInDT (K : PySem.W.Frag) : R2 := fun x y H Q => ∃ d ds, Dp K H x d ∧ Dp K H y (.tuple ds) ∧ SeqAt.shaped d = true ∧ SeqAt.shaped (.tuple ds) = true ∧ Q (.bl (ds.any fun z => PyData.eqv z d)) H
theorem op_inDT (hu : X.A.units + 65 < cLine) : OpR X (compareOp .In) (rInDT X.K) := by
  intro pins s σ H x y v u Q I rx ry h
  obtain ⟨d, ds, hd, ht, s1, s2, q⟩ := h
  obtain ⟨as, q1⟩ := Dp.reads I d x v hd rx
  obtain ⟨bs, q2⟩ := Dp.reads I (.tuple ds) y u ht ry
  exact SeqAt.in_tuple_reads q2 q1 (SeqAt.canLay_of_shaped s2) (SeqAt.canLay_of_shaped s1) (room_in_shaped s1 hu) ⟨.bl _, H, I, rfl, q⟩
end
end RM
namespace RM
open PySem PySem.Spec PyProof.Rows L2
/-! ### tuples of rays may be shown -/
theorem int_short : ∀ n ∈ List.range 2001, (PyData.intsShort 13 (.int ((n : Int) - 1000)) && PyData.showable (.int ((n : Int) - 1000))) = true := by decide +kernel
theorem int_ok {x : Int} (h : x.natAbs ≤ 1000) : PyData.intsShort 13 (.int x) = true ∧ PyData.showable (.int x) = true := by
  have q := int_short (x + 1000).toNat (List.mem_range.mpr (by omega))
  rw [show (((x + 1000).toNat : Nat) : Int) - 1000 = x from by omega, Bool.and_eq_true] at q
  exact q
theorem ints_ok : ∀ {r : List Int}, Sm 1000 r → PyData.intsShortAll 13 (r.map PyData.int) = true ∧ PyData.showableAll (r.map PyData.int) = true
  | [], _ => ⟨rfl, rfl⟩
  | x :: r, h => by
    obtain ⟨a, b⟩ := int_ok (h x (List.mem_cons_self ..))
    obtain ⟨c, d⟩ := ints_ok (r := r) fun y m => h y (List.mem_cons_of_mem _ m)
    refine ⟨?_, ?_⟩
    · show (PyData.intsShort 13 (.int x) && PyData.intsShortAll 13 (r.map PyData.int)) = true
      rw [a, c]; rfl
    · show (PyData.showable (.int x) && PyData.showableAll (r.map PyData.int)) = true
      rw [b, d]; rfl
theorem dts_ok : ∀ {Ls : List (List Int)}, (∀ r ∈ Ls, Sm 1000 r) → PyData.intsShortAll 13 (Ls.map dT) = true ∧ PyData.showableAll (Ls.map dT) = true
  | [], _ => ⟨rfl, rfl⟩
  | r :: Ls, h => by
    obtain ⟨a, b⟩ := ints_ok (h r (List.mem_cons_self ..))
    obtain ⟨c, d⟩ := dts_ok (Ls := Ls) fun y m => h y (List.mem_cons_of_mem _ m)
    refine ⟨?_, ?_⟩
    · show (PyData.intsShortAll 13 (r.map PyData.int) && PyData.intsShortAll 13 (Ls.map dT)) = true
      rw [a, c]; rfl
    · show (PyData.showableAll (r.map PyData.int) && PyData.showableAll (Ls.map dT)) = true
      rw [b, d]; rfl
end RM
namespace RM
open PySem PySem.Spec PyProof.Rows L2
/-! ### the weight of what is told -/
theorem int_wt0 : ∀ n ∈ List.range 2001, decide (PyData.weight (.int ((n : Int) - 1000)) ≤ 10) = true := by decide +kernel
theorem int_wt {x : Int} (h : x.natAbs ≤ 1000) : PyData.weight (.int x) ≤ 10 := by
  have q := int_wt0 (x + 1000).toNat (List.mem_range.mpr (by omega))
  rw [show (((x + 1000).toNat : Nat) : Int) - 1000 = x from by omega] at q
  exact of_decide_eq_true q
theorem ints_wt : ∀ {r : List Int}, Sm 1000 r → PyData.weightAll (r.map PyData.int) ≤ 11 * r.length
  | [], _ => Nat.le_refl _
  | x :: r, h => by
    have a := int_wt (h x (List.mem_cons_self ..))
    have b := ints_wt (r := r) fun y m => h y (List.mem_cons_of_mem _ m)
    show PyData.weight (.int x) + 1 + PyData.weightAll (r.map PyData.int) ≤ 11 * (r.length + 1)
    omega
theorem dts_wt {n : Nat} (h5 : n ≤ 5) : ∀ {Ls : List (List Int)}, (∀ r ∈ Ls, RayOk n r) → PyData.weightAll (Ls.map dT) ≤ 56 * Ls.length
  | [], _ => Nat.le_refl _
  | r :: Ls, h => by
    have hr := h r (List.mem_cons_self ..)
    have a := ints_wt hr.sm
    have b := dts_wt h5 (Ls := Ls) fun y m => h y (List.mem_cons_of_mem _ m)
    have e := hr.len
    show PyData.weightAll (r.map PyData.int) + 1 + PyData.weightAll (Ls.map dT) ≤ 56 * (Ls.length + 1)
    omega
def dTp (Ls : List (List Int)) : PyData := .tuple (Ls.map dT)
theorem shp_dTp (Ls : List (List Int)) : SeqAt.shaped (dTp Ls) = true := shp_dL Ls
theorem shows_due {n : Nat} (h5 : n ≤ 5) {Ls : List (List Int)} (h : ∀ r ∈ Ls, RayOk n r) (hl : Ls.length ≤ 30) : Shows (.list [dTp Ls, dTp Ls]) := by
  obtain ⟨a, b⟩ := dts_ok fun r m => (h r m).sm
  have c := lay_dTs Ls
  have d := dep_dTs Ls
  have e := dts_wt h5 h
  refine shows_of ?_
  have hw : PyData.weight (.list [dTp Ls, dTp Ls]) ≤ 2 ^ 20 := by
    show PyData.weightAll (Ls.map dT) + 1 + (PyData.weightAll (Ls.map dT) + 1 + 0) ≤ 2 ^ 20
    omega
  have hd : PyData.depth (.list [dTp Ls, dTp Ls]) ≤ 60 := by
    show max (PyData.depthAll (Ls.map dT) + 1) (max (PyData.depthAll (Ls.map dT) + 1) 0) + 1 ≤ 60
    omega
  have hc : PyData.canLay0 (.list [dTp Ls, dTp Ls]) = true := by
    show (PyData.canLayAll0 (Ls.map dT) && (PyData.canLayAll0 (Ls.map dT) && true)) = true
    rw [c]; rfl
  have hs : PyData.showable (.list [dTp Ls, dTp Ls]) = true := by
    show (PyData.showableAll (Ls.map dT) && (PyData.showableAll (Ls.map dT) && true)) = true
    rw [b]; rfl
  have hi : PyData.intsShort 13 (.list [dTp Ls, dTp Ls]) = true := by
    show (PyData.intsShortAll 13 (Ls.map dT) && (PyData.intsShortAll 13 (Ls.map dT) && true)) = true
    rw [a]; rfl
  unfold showB PyData.layable0
  rw [hs, hi, hc, decide_eq_true hw, decide_eq_true hd, decide_eq_true (by omega)]
  rfl
/-! ### the pools -/
def poolB (p : Nat × Nat) : Bool := ((pool p.1).all fun r => isRay r && (decide (r.length = p.1) && r.all fun x => decide (x.natAbs ≤ 1000))) && (decide (0 < (pool p.1).length) && (decide ((pool p.1).length ≤ 1000) && (decide (p.1 < 5) || decide ((pool p.1).length ≤ 9))))
theorem pool_ok : ∀ p ∈ rules, poolB p = true := by decide +kernel
theorem all_size : ∀ p ∈ rules, (decide (2 ≤ p.1) && (decide (p.1 ≤ 5) && (decide (0 < p.2) && (!decide (p.1 < 5) || decide ((2 * (5 - p.1) + 1) ^ p.1 ≤ 1000))))) = true := by decide
theorem seq_join {s1 s2 : TS} {D : Ends} {σ : L2.St} {H : Hp} (J : L2.St → Hp → Prop) (hJ : ∀ σ' H', J σ' H' → s2 D σ' H') (h : ∀ N : L2.St → Hp → Prop, (∀ σ' H', J σ' H' → N σ' H') → s1 { D with nx := N } σ H) : tSeq s1 s2 D σ H := h _ hJ
section
variable {X : Cx} {j1 j2 j3 j4 j5 kk : Nat} {p1 p2 p3 p4 p5 pos pu : Pos}
theorem pe_tup5c {a b c d e : Int} : PE X (.Tuple [.Constant (.int a) j1 p1, .Constant (.int b) j2 p2, .UnaryOp .USub (.Constant (.int c) j3 p3) pu, .Constant (.int d) j4 p4, .Constant (.int e) j5 p5] kk pos) (tTupC [a, b, -c, d, e]) :=
  ⟨fun pins s σ H Q I h => (pe_tup (pa_cons pe_int (pa_cons pe_int (pa_cons (pe_un un_neg pe_int) (pa_cons pe_int (pa_cons pe_int pa_nil)))))).run pins s σ H Q I ⟨c, rfl, by show 5 ≤ sizeLine; decide, h⟩⟩
theorem pe_tup5b {a b c d e : Int} : PE X (.Tuple [.Constant (.int a) j1 p1, .UnaryOp .USub (.Constant (.int b) j2 p2) pu, .Constant (.int c) j3 p3, .Constant (.int d) j4 p4, .Constant (.int e) j5 p5] kk pos) (tTupC [a, -b, c, d, e]) :=
  ⟨fun pins s σ H Q I h => (pe_tup (pa_cons pe_int (pa_cons (pe_un un_neg pe_int) (pa_cons pe_int (pa_cons pe_int (pa_cons pe_int pa_nil)))))).run pins s σ H Q I ⟨b, rfl, by show 5 ≤ sizeLine; decide, h⟩⟩
end
section
variable {P : Program} {w : World} {K : PySem.W.Frag} {mg : Str → Option Value} {base : Heap} {Cr : Addr}
/-! _law_is_lot_right: 64 -/
def spLot (P : Program) (w : World) (mg : Str → Option Value) (base : Heap) (Cr : Addr) : Sp := fun vs H Q _ => ∃ (C a d c : Addr) (p : Nat × Nat) (t : List Nat) (v : V), RuleK P w K mg base Cr C ∧ vs = [.ref d, .ref a, .int (p.1 : Int), .int (p.2 : Int), v] ∧ Spr H d c ∧ p ∈ rules ∧ Ru K C H a p.1 p.2 (moved p.1 p.2 t) ∧ TupI K H v (oI t) ∧ t ∈ permsOf p.1 ∧ ∀ H', Kb d H H' → Spr H' d c → Q (.bl true) H'
def nLot : List Str := ["_law_spring_here", "_law_one", "_law_wide", "_law_way", "_law_turn", "_law_some", "_law_beams", "_law_heap", "_law_due", "_law_each_set", "_law_beam", "_law_late"]
theorem sc_lot : FnScope nLot ["_law_spring_here", "_law_one", "_law_wide", "_law_way", "_law_turn"] (defScope (top 64)) := ⟨rfl, rfl, rfl, by decide +kernel, rfl, by decide +kernel, by decide +kernel⟩
theorem c_lot (T : Tx K mg) (D : DefAt K mg "_law_is_lot_right" (top 64)) (C1 : Cal P w K mg base "_law_all" 4 ["_law_wide", "_law_most"] (spAll (K := K))) (C2 : Cal P w K mg base "_law_axes" 1 ["_law_wide"] (spAxes (K := K)))
    (C3 : Cal P w K mg base "_law_part" 2 ["_law_spring_here", "_law_beams", "_law_many"] (spPart (K := K))) (C4 : Cal P w K mg base "_law_is_for" 2 ["_law_way", "_law_beam"] (spRuled (K := K))) (C5 : Cal P w K mg base "_law_marks_of" 2 ["_law_way", "_law_turn", "_law_beam"] (spMarks (K := K)))
    (C6 : CalG P w K mg base "_law_same" 1 ["_law_told", "_law_due"] (spSame (K := K))) (C7 : Cal P w K mg base "_law_sets" 2 ["_law_heap"] (spSets (K := K))) (C8 : Cal P w K mg base "_law_dot" 1 ["_law_first", "_law_second"] (spDot (K := K))) :
    CalG P w K mg base "_law_is_lot_right" 8 ["_law_spring_here", "_law_one", "_law_wide", "_law_way", "_law_turn"] (spLot (K := K) P w mg base Cr) := by
  refine calG_mk D sc_lot (fun _ _ _ _ _ _ us hl => match us, hl with | [_, _, _, _, _], _ => rfl) (fun vs H Q E h => ?_) (fun cdv f A hg outer s H vs Q hr h => ?_)
  · obtain ⟨C, a, d, c, p, t, v, _, rfl, _⟩ := h
    rfl
  · obtain ⟨C, a, d, c, p, t, v, RK, rfl, hs, hp, ru, hv, ht, k⟩ := h
    obtain ⟨fT, fdT, mT, FT, bT, kbT⟩ := RK.taken
    refine ⟨_, pss_cons (ps_if (pt_cmpR op_lt (pv 2) pe_int (nomark _)) (pss_one (ps_set (i := 5) sc_lot.nd rfl (Or.inl rfl) (pe_cal C1 (hr.mono (by decide)) (pa_cons (pv 2) (pa_cons (pe_op op_sub pe_int (pv 2)) pa_nil))))) (pss_one (ps_set (i := 5) sc_lot.nd rfl (Or.inl rfl) (pe_op op_cat (pe_cal C2 (hr.mono (by decide)) (pa_cons pe_int pa_nil)) (pe_lst (pa_cons pe_tup5 (pa_cons pe_tup5 (pa_cons pe_tup5c (pa_cons pe_tup5b pa_nil)))))))))
      (pss_cons (ps_setLc (i := 6) (own := [("_law_beam", 10)]) (g := gName 10) (tt := tB (tCall (spRuled (K := K)) [] E0 (tCons (tVar 3) (tCons (tVar 10) tNil)))) (te := (tVar 10)) rfl sc_lot.nd rfl rfl (sw_true rfl rfl rfl (by decide +kernel)) (pi_list (pe_cal C3 (hr.mono (by decide)) (pa_cons (pv 0) (pa_cons (pv 5) (pa_cons pe_int pa_nil))))) (blkOk_by (N := nLot) (sc := defScope (top 64)) (by decide +kernel)) (fun _ _ _ _ _ => pg_name (i := 10) sc_lot.nd rfl (Or.inl rfl)) (fun _ _ _ _ _ => pts_one (pt_val (pe_cal C4 (by exact hr.mono (by decide)) (pa_cons (pv 3) (pa_cons (pv 10) pa_nil))))) (fun _ _ _ _ _ => (pv 10)))
      (pss_cons (ps_set (i := 7) sc_lot.nd rfl (Or.inl rfl) (pe_tup (pa_cons (pv 2) (pa_cons (pe_tupleOf (by rfl) T.tuple (pe_callB (cr_sortP hr.units) (by rfl) T.sorted rfl (pa_cons (pv 6) pa_nil))) pa_nil))))
      (pss_cons (ps_set (i := 8) sc_lot.nd rfl (Or.inr rfl) (pe_tupleOf (by rfl) T.tuple (pe_lc (own := [("_law_beam", 10)]) (g := gName 10) (tt := tB (tCall (spMarks (K := K)) [] E0 (tCons (tVar 3) (tCons (tVar 4) (tCons (tVar 10) tNil))))) (te := (tVar 10)) rfl sc_lot.nd  (pi_tup (pe_ix ix_tup (pv 7) pe_int (fun _ _ => rfl))) (blkOk_by (N := nLot) (sc := defScope (top 64)) (by decide +kernel)) (fun _ _ _ _ _ => pg_name (i := 10) sc_lot.nd rfl (Or.inl rfl)) (fun _ _ _ _ _ => pts_one (pt_val (pe_cal C5 (by exact hr.mono (by decide)) (pa_cons (pv 3) (pa_cons (pv 4) (pa_cons (pv 10) pa_nil)))))) (fun _ _ _ _ _ => (pv 10)))))
      (pss_cons (ps_if (pt_not (pt_val (pe_calG C6 hg (hr.mono (by decide)) (pa_cons (pe_lst (pa_cons (pe_meth (pv 1) RK.rc.cls mT FT (hr.mono (by decide)) bT .nil pass0 (pa_cons (pv 7) pa_nil)) (pa_cons (pe_methKw (pv 1) RK.rc.cls mT FT kbT (hr.mono (by decide)) (pv 7)) pa_nil))) (pa_cons (pe_lst (pa_cons (pv 8) (pa_cons (pv 8) pa_nil))) pa_nil))))) (pss_one (ps_ret pe_bl)) pss_nil)
      (pss_cons (ps_for PassesOwn.never rfl (pi_list (pe_cal C7 (hr.mono (by decide)) (pa_cons (pv 7) pa_nil))) (pg_name (i := 9) sc_lot.nd rfl (Or.inl rfl)) (pss_one (ps_if (pt_cmpR op_ne (pe_callB call_len (by rfl) T.len rfl (pa_cons (pe_lc (own := [("_law_beam", 10)]) (g := gName 10) (tt := tTest (tOp (rInDT K) (tVar 10) (tVar 8))) (te := (tVar 10)) rfl sc_lot.nd  (pi_tup (pv 9)) (blkOk_by (N := nLot) (sc := defScope (top 64)) (by decide +kernel)) (fun _ _ _ _ _ => pg_name (i := 10) sc_lot.nd rfl (Or.inl rfl)) (fun _ _ _ _ _ => pts_one (pt_cmpR (op_inDT (by exact room65 hr)) (pv 10) (pv 8) rfl)) (fun _ _ _ _ _ => (pv 10))) pa_nil)) pe_int (nomark _)) (pss_one (ps_ret pe_bl)) pss_nil)))
      (pss_cons (ps_for PassesOwn.never rfl (pi_tup (pv 8)) (pg_name (i := 10) sc_lot.nd rfl (Or.inr rfl)) (pss_one (ps_if (pt_cmpR (op_neD hr.units) (pe_lc (own := [("_law_late", 11)]) (g := gName 11) (tt := tAnd (tTest (tOp (rNeD K) (tVar 11) (tVar 10))) (tTest (tOp rEq (tCall (spDot (K := K)) [] E0 (tCons (tVar 11) (tCons (tVar 10) tNil))) (tC (.int 0))))) (te := (tVar 11)) rfl sc_lot.nd  (pi_tup (pv 8)) (blkOk_by (N := nLot) (sc := defScope (top 64)) (by decide +kernel)) (fun _ _ _ _ _ => pg_name (i := 11) sc_lot.nd rfl (Or.inl rfl)) (fun _ _ _ _ _ => pts_one (PW.pt (pw_and (pt_cmpR (op_neD (by exact hr.units)) (pv 11) (pv 10) (nomark _)) (pw_and1 (pt_cmpR op_eq (pe_cal C8 (by exact hr.mono (by decide)) (pa_cons (pv 11) (pa_cons (pv 10) pa_nil))) pe_int (nomark _)))))) (fun _ _ _ _ _ => (pv 11))) (pe_lst pa_nil) (nomark _)) (pss_one (ps_ret pe_bl)) pss_nil)))
      (pss_one (ps_ret pe_bl)))))))), ?_⟩
    obtain ⟨p3, p5, m2, m4⟩ := rule_small hp
    have O := ord_of hp ht
    have pk := pool_ok p hp
    have sz := all_size p hp
    unfold poolB at pk
    simp only [Bool.and_eq_true, Bool.or_eq_true, Bool.not_eq_true', decide_eq_true_eq, decide_eq_false_iff_not, List.all_eq_true] at pk sz
    obtain ⟨pk1, pk2, pk3, pk4⟩ := pk
    obtain ⟨_, _, _, sz4⟩ := sz
    have RO : ∀ r ∈ pool p.1, RayOk p.1 r := fun r hr2 => ⟨(pk1 r hr2).1, (pk1 r hr2).2.1, (pk1 r hr2).2.2⟩
    have qz : p.1 ≤ sizeLine := by rw [sizeLine_eq]; omega
    refine seq_join (fun σ' H' => ∃ X xs, σ' = [some (.ref d), some (.ref a), some (.int (p.1 : Int)), some (.int (p.2 : Int)), some v, some (.ref X), none, none, none, none, none, none] ∧ Same H H' ∧ H' X = some (.lst xs) ∧ Paired (gT K H') xs (pool p.1)) ?_ ?_
    · rintro σ H1 ⟨S0, xs0, rfl, s1, hS0, pS0⟩
      have hs1 := spr_same hs s1
      have hl0 := pS0.length
      refine ⟨_, rfl, _, rfl, d, c, S0, xs0, pool p.1, rfl, hs1, SqL.of hS0, pS0, by omega, by omega, fun H2 q ys sel hq pSel hsel hl30 hl2 kb2 hs2 => ⟨q, rfl, ⟨_, SqL.of hq⟩, fun B hB => lcL (G := gT K) pSel (SqL.of hq) hB (by rw [← pSel.length, sizeLine_eq]; omega) stbT (p := ruled p.2) (f := fun x => x) ?_ ?_ ?_⟩⟩
      · rintro x r hr2 hx H3 s3 Q q
        have R := RO r (hsel r hr2)
        exact ⟨_, rfl, _, rfl, x, r, p.2, rfl, tupI_same hx s3, by omega, by rw [R.len]; exact qz, R.far, fun H4 s4 => ⟨_, rfl, q H4 s4⟩⟩
      · rintro x r _ hx _ H3 s3 Q q
        exact ⟨_, rfl, q _ _ (fun _ _ e => e) (tupI_same hx s3)⟩
      intro H3 zs s3 hB3 pB
      rw [List.map_id'] at pB
      have hsl := pSel.length
      have hzl := pB.length
      have hfl := List.length_filter_le (ruled p.2) sel
      have R1 : ∀ r ∈ sel.filter (ruled p.2), r ∈ poolR p := fun r m => List.mem_filter.mpr ⟨hsel r (List.mem_filter.mp m).1, (List.mem_filter.mp m).2⟩
      have RP : ∀ r ∈ poolR p, RayOk p.1 r := fun r m => RO r (List.mem_filter.mp m).1
      refine ⟨_, rfl, _, rfl, B, zs, sel.filter (ruled p.2), rfl, SqL.of hB3, pB, fun r m e => ?_, fun ys2 Ms q2 pM perm hq2 => .inl ⟨q2, ys2, rfl, SqL.of upd_same, fun tp htp => ⟨by show 2 ≤ sizeLine; decide, fun hh hhh => ?_⟩⟩⟩
      · have := (RP r (R1 r m)).len
        rw [e] at this
        have h0 : 0 = p.1 := this
        omega
      have sa := same_upd (o := .lst ys2) hq2
      have sb := same_upd (o := .tup ys2) htp
      have sc := same_upd (o := .tup [.int (p.1 : Int), .ref tp]) hhh
      have sABC := (sa.trans sb).trans sc
      have pM4 := pr_same pM sABC
      have qtp := sc _ _ (upd_same (H := upd H3 q2 (.lst ys2)) (a := tp) (o := .tup ys2))
      have qhh := upd_same (H := upd (upd H3 q2 (.lst ys2)) tp (.tup ys2)) (a := hh) (o := .tup [.int (p.1 : Int), .ref tp])
      generalize upd (upd (upd H3 q2 (.lst ys2)) tp (.tup ys2)) hh (.tup [.int (p.1 : Int), .ref tp]) = H4 at *
      have s14 : Same H3 H4 := sABC
      have hMl : Ms.length = (sel.filter (ruled p.2)).length := perm.length_eq
      have RM1 : ∀ r ∈ Ms, r ∈ poolR p := fun r m => R1 r (perm.mem_iff.mp m)
      have RM2 : ∀ r ∈ Ms, RayOk p.1 r := fun r m => RP r (RM1 r m)
      have hM30 : Ms.length ≤ 30 := by omega
      have z30 : Ms.length ≤ sizeLine := by rw [sizeLine_eq]; omega
      have kbA : Kb d H H4 := fun b o e nb => s14 _ _ (s3 _ _ (kb2 _ _ (s1 _ _ e) nb))
      have hs4 : Spr H4 d c := spr_same (spr_same hs2 s3) s14
      have ru4 : Ru K C H4 a p.1 p.2 (moved p.1 p.2 t) := ru_spr ru hs kbA
      have hv4 : TupI K H4 v (oI t) := tupI_spr hv hs kbA
      refine ⟨_, rfl, hh, _, 1, .ref tp, rfl, rfl, SqT.of qhh, atI_nat (j := 1) rfl, tp, rfl, ⟨_, SqT.of qtp⟩, fun D hD => lcTu (G := gT K) pM4 (SqT.of qtp) hD z30 stbT (p := marked p.1 p.2 t) (f := fun x => x) ?_ ?_ ?_⟩
      · rintro x r hr2 hx H5 s5 Q q
        exact ⟨_, rfl, _, rfl, _, rfl, p, t, r, v, x, rfl, hp, tupI_same hv4 s5, O, tupI_same hx s5, (RM2 r hr2).len, fun H6 s6 => ⟨_, rfl, q H6 s6⟩⟩
      · rintro x r _ hx _ H5 s5 Q q
        exact ⟨_, rfl, q _ _ (fun _ _ e => e) (tupI_same hx s5)⟩
      intro H5 ws s5 hD5 pW
      rw [List.map_id'] at pW
      refine .inl ⟨D, ws, rfl, SqL.of hD5, fun dt hdt => ?_⟩
      have s6 := same_upd (o := .tup ws) hdt
      have pW6 := pr_same pW s6
      have qdt := upd_same (H := H5) (a := dt) (o := .tup ws)
      generalize upd H5 dt (.tup ws) = H6 at *
      have hWl := pW6.length
      have hfl2 := List.length_filter_le (marked p.1 p.2 t) Ms
      have s46 := s5.trans s6
      have ru6 := ru_same ru4 s46
      have qh6 : SqT K H6 hh [.int (p.1 : Int), .ref tp] := SqT.of (s46 _ _ qhh)
      have qt6 : SqT K H6 tp ys2 := SqT.of (s46 _ _ qtp)
      have pM6 := pr_same pM4 s46
      have efil : (Ms.filter fun r => (moved p.1 p.2 t).contains (canon p.2 r)) = Ms.filter (marked p.1 p.2 t) := List.filter_congr fun r m => marks_iff hp ht (RM2 r m).len
      have hTk : ∀ r ∈ Ms, RM.meant p.1 p.2 r = true ∧ Far r ∧ r.length ≤ sizeLine := fun r m => ⟨by rw [(RM2 r m).meant]; exact (List.mem_filter.mp (RM1 r m)).2, (RM2 r m).far, by rw [(RM2 r m).len]; exact qz⟩
      obtain ⟨dx, fs, l, zs9, g1, g2, g3, g4, g5, g6, g7⟩ := id ru6
      refine ⟨_, rfl, a, dx, fs, rfl, g1, g7, _, rfl, C, a, hh, tp, p.1, p.2, _, ys2, Ms, RK.rc, rfl, ru6, qh6, qt6, pM6, by omega, z30, hTk, fun H7 t1 w1 s7 q1 p1 => ?_⟩
      rw [efil] at p1
      have ru7 := ru_same ru6 s7
      refine ⟨_, rfl, a, dx, fs, rfl, s7 _ _ g1, g7, _, rfl, _, rfl, C, a, hh, tp, p.1, p.2, _, ys2, Ms, RK.rc, rfl, ru7, qh6.ext s7, qt6.ext s7, pr_same pM6 s7, by omega, z30, hTk, fun H8 t2 w2 s8 q2' p2 => ⟨by show 2 ≤ sizeLine; decide, fun L1 hL1 => ⟨_, rfl, _, rfl, by show 2 ≤ sizeLine; decide, fun L2 hL2 => ?_⟩⟩⟩
      rw [efil] at p2
      have sa := same_upd (o := .lst [.ref t1, .ref t2]) hL1
      have sb := same_upd (o := .lst [.ref dt, .ref dt]) hL2
      have s79 := (s8.trans sa).trans sb
      have s69 := s7.trans s79
      have qL1 := sb _ _ (upd_same (H := H8) (a := L1) (o := .lst [.ref t1, .ref t2]))
      have qL2 := upd_same (H := upd H8 L1 (.lst [.ref t1, .ref t2])) (a := L2) (o := .lst [.ref dt, .ref dt])
      have s89 := sa.trans sb
      generalize upd (upd H8 L1 (.lst [.ref t1, .ref t2])) L2 (.lst [.ref dt, .ref dt]) = H9 at *
      have dd := dp_all (pr_same pW6 s69)
      refine ⟨.ref L1, .ref L2, .list [dTp (Ms.filter (marked p.1 p.2 t)), dTp (Ms.filter (marked p.1 p.2 t))], rfl, .lst (SqL.of qL1) (.cons (.tup (q1.ext s79) (dp_all (pr_same p1 s79))) (.cons (.tup (q2'.ext s89) (dp_all (pr_same p2 s89))) .nil)),
        .lst (SqL.of qL2) (.cons (.tup (SqT.of (s69 _ _ qdt)) dd) (.cons (.tup (SqT.of (s69 _ _ qdt)) dd) .nil)), shows_due p5 (fun r m => RM2 r (List.mem_filter.mp m).1) (by omega), true, rfl, ite_f rfl ?_⟩
      have pW9 := pr_same pW6 s69
      have qdt9 : SqT K H9 dt ws := SqT.of (s69 _ _ qdt)
      have zW : (Ms.filter (marked p.1 p.2 t)).length ≤ sizeLine := by rw [sizeLine_eq]; omega
      have hpow : (if p.1 = 5 then 18 else 30) ^ p.1 ≤ 8000000 ∧ Ms.length ≤ (if p.1 = 5 then 18 else 30) := by
        have c3 : p.1 = 3 ∨ p.1 = 4 ∨ p.1 = 5 := by omega
        rcases c3 with e | e | e <;> rw [e] at pk4 ⊢
        · exact ⟨by decide, hM30⟩
        · exact ⟨by decide, hM30⟩
        · refine ⟨by decide, ?_⟩
          have h9 : (pool 5).length ≤ 9 := pk4.resolve_left (by decide)
          rw [e] at hl0
          show Ms.length ≤ 18
          omega
      refine ⟨_, rfl, hh, tp, p.1, (if p.1 = 5 then 18 else 30), ys2, poolR p, Ms, rfl, qh6.ext s69, qt6.ext s69, pr_same pM6 s69, by omega, by omega, hpow.2, by split <;> omega, hpow.1, RM1, fun r m => ⟨(RP r m).len, (RP r m).far⟩, fun H10 y1 fr s10 hy1 hfr => ⟨y1, rfl, ⟨_, SqL.of hy1⟩, ?_⟩⟩
      have pW10 := pr_same pW9 s10
      have qdt10 := qdt9.ext s10
      refine for_list (xs := fr) (fun i σ G => ∃ (o9 : Option V), σ = [some (.ref d), some (.ref a), some (.int (p.1 : Int)), some (.int (p.2 : Int)), some v, some (.ref S0), some (.ref B), some (.ref hh), some (.ref dt), o9, none, none] ∧ Same H10 G) ⟨none, rfl, fun _ _ e => e⟩ ?_ ?_ ?_
      · rintro i σ G _ ⟨_, _, sG⟩
        exact SqL.of (sG _ _ hy1)
      · rintro i y σ G hy ⟨o9, rfl, sG⟩
        obtain ⟨F, gFF, frF⟩ := hfr y (List.mem_of_getElem? hy)
        obtain ⟨tF, vs, rfl, qF, pF⟩ := gF_same gFF sG
        have hFl := fr_len frF
        refine ⟨_, rfl, tF, rfl, ⟨_, qF⟩, fun D2 hD2 => lcTu (G := gT K) pF qF hD2 (by rw [hFl, sizeLine_eq]; omega) stbT (p := fun r => (Ms.filter (marked p.1 p.2 t)).contains r) (f := fun x => x) ?_ ?_ ?_⟩
        · rintro x r hr2 hx G2 sG2 Q q
          refine ⟨_, rfl, _, rfl, dT r, (Ms.filter (marked p.1 p.2 t)).map dT, dp_tup (tupI_same hx sG2), .tup (qdt10.ext (sG.trans sG2)) (dp_all (pr_same pW10 (sG.trans sG2))), shp_dT _, shp_dTp _, _, rfl, ?_⟩
          rw [any_dT]
          exact q _ fun _ _ e => e
        · rintro x r _ hx _ G2 sG2 Q q
          exact ⟨_, rfl, q _ _ (fun _ _ e => e) (tupI_same hx sG2)⟩
        · intro G2 us sG2 hus pus
          have e1 : us.length = 1 := by
            have f1 := frames_one p hp F.reverse frF.1 t ht
            rw [List.filter_reverse, List.length_reverse] at f1
            rw [pus.length, List.map_id', ← f1]
            congr 1
            refine List.filter_congr fun r m => ?_
            rw [Bool.eq_iff_iff, List.contains_iff_mem, List.mem_filter]
            exact ⟨fun h => h.2, fun h => ⟨frF.2 r m, h⟩⟩
          refine ⟨_, _, rfl, .inl ⟨_, SqL.of hus, rfl⟩, rfl, _, rfl, ?_⟩
          rw [e1]
          exact ite_f rfl ⟨some (.ref tF), rfl, sG.trans sG2⟩
      · rintro σ G ⟨o9, rfl, sG⟩
        have pWG := pr_same pW10 sG
        have qdtG := qdt10.ext sG
        refine ⟨_, rfl, dt, rfl, ⟨_, qdtG⟩, for_tup (xs := ws) (fun i σ G2 => ∃ (o10 : Option V), σ = [some (.ref d), some (.ref a), some (.int (p.1 : Int)), some (.int (p.2 : Int)), some v, some (.ref S0), some (.ref B), some (.ref hh), some (.ref dt), o9, o10, none] ∧ Same G G2) ⟨none, rfl, fun _ _ e => e⟩ ?_ ?_ ?_⟩
        · rintro i σ G2 _ ⟨_, _, sG2⟩
          exact qdtG.ext sG2
        · rintro i x σ G2 hx ⟨o10, rfl, sG2⟩
          obtain ⟨b, hb, txb⟩ := pr_get pWG hx
          have hbm := List.mem_of_getElem? hb
          have mR : ∀ r ∈ Ms.filter (marked p.1 p.2 t), r ∈ (poolR p).filter (marked p.1 p.2 t) := fun r m => List.mem_filter.mpr ⟨RM1 r (List.mem_filter.mp m).1, (List.mem_filter.mp m).2⟩
          refine ⟨_, rfl, dt, rfl, ⟨_, qdtG.ext sG2⟩, fun D3 hD3 => lcTu (G := gT K) (pr_same pWG sG2) (qdtG.ext sG2) hD3 zW stbT (p := fun r => !decide (r = b) && decide (dot r b = 0)) (f := fun x => x) ?_ ?_ ?_⟩
          · rintro u r hr2 hu G3 sG3 Q q
            have tb := tupI_same txb (sG2.trans sG3)
            have tu := tupI_same hu sG3
            refine ⟨_, rfl, _, rfl, dT r, dT b, dp_tup tu, dp_tup tb, shp_dT _, shp_dT _, _, rfl, ?_⟩
            rw [eqv_dT]
            by_cases hrb : r = b
            · refine ite_f (by rw [decide_eq_true hrb]; rfl) ?_
              have : Q (!decide (r = b) && decide (dot r b = 0)) G3 := q G3 fun _ _ e => e
              rw [decide_eq_true hrb] at this
              exact this
            · refine ite_t (by rw [decide_eq_false hrb]; rfl) ?_
              have l1 := (RM2 r (List.mem_filter.mp hr2).1).len
              have l2 := (RM2 b (List.mem_filter.mp hbm).1).len
              refine ⟨_, rfl, _, rfl, u, x, r, b, rfl, tu, tb, by rw [l1, l2], by rw [l1]; exact qz, (RM2 r (List.mem_filter.mp hr2).1).far, fun G4 sG4 => ⟨rfl, _, rfl, ?_⟩⟩
              have : Q (!decide (r = b) && decide (dot r b = 0)) G4 := q G4 sG4
              rw [decide_eq_false hrb] at this
              have e : (decide (V.int (dot r b) = V.int 0)) = decide (dot r b = 0) := by simp
              rw [e]
              exact this
          · rintro u r _ hu _ G3 sG3 Q q
            exact ⟨_, rfl, q _ _ (fun _ _ e => e) (tupI_same hu sG3)⟩
          · intro G3 us sG3 hus pus
            rw [List.map_id'] at pus
            have e0 : (Ms.filter (marked p.1 p.2 t)).filter (fun r => !decide (r = b) && decide (dot r b = 0)) = [] := by
              refine List.filter_eq_nil_iff.mpr fun r m hq => ?_
              simp only [Bool.and_eq_true, Bool.not_eq_true', decide_eq_false_iff_not, decide_eq_true_eq] at hq
              rcases none_right p hp t ht r (mR r m) b (mR b hbm) with e | e
              · exact hq.1 e
              · exact e hq.2
            rw [e0] at pus
            refine ⟨by show 0 ≤ sizeLine; decide, fun M hM => ⟨dL [], .list [], dp_list (SqL.of (same_upd hM _ _ hus)) (pr_same pus (same_upd hM)), .lst (SqL.of upd_same) .nil, shp_dL _, rfl, _, rfl, ?_⟩⟩
            exact ite_f rfl ⟨some x, rfl, (sG2.trans sG3).trans (same_upd hM)⟩
        · rintro σ G2 ⟨o10, rfl, sG2⟩
          have sAll := ((s46.trans s69).trans s10).trans (sG.trans sG2)
          exact k G2 (fun b o e nb => sAll _ _ (kbA b o e nb)) (spr_same hs4 sAll)
    · intro N hN
      refine ⟨_, rfl, (p.1 : Int), 5, rfl, rfl, _, rfl, ?_⟩
      by_cases hw : p.1 < 5
      · refine ite_t (decide_eq_true (by omega)) ?_
        refine ⟨_, rfl, _, rfl, _, _, rfl, rfl, p.1, 5 - p.1, by show [V.int (p.1 : Int), V.int ((5 : Int) - (p.1 : Int))] = _; rw [show ((5 : Int) - (p.1 : Int)) = ((5 - p.1 : Nat) : Int) from by omega], by omega, by omega, sz4.resolve_left (fun n => n hw), fun H1 X xs s1 hX pX _ => hN _ _ ⟨X, xs, rfl, s1, hX, ?_⟩⟩
        unfold pool
        rw [if_pos hw]
        exact pX
      · have e5 : p.1 = 5 := by omega
        refine ite_f (decide_eq_false (by omega)) ?_
        refine ⟨5, rfl, by decide, fun H1 X xs s1 hX pX => ?_⟩
        refine tcs_read (K := K) [[1, 1, 1, 0, 0], [1, 0, 0, 1, 1], [0, 1, -1, 1, 0], [1, -1, 0, 0, 1]] _ _ _ fun H2 vs s2 pv2 => ⟨by rw [pv2.length]; show 4 ≤ sizeLine; decide, fun Y hY => ?_⟩
        have sY := same_upd (o := .lst vs) hY
        have hx5 : xs.length = 5 := pX.length
        have hv4 : vs.length = 4 := pv2.length
        refine ⟨X, Y, xs, vs, rfl, rfl, sY _ _ (s2 _ _ hX), upd_same, by rw [hx5, hv4, sizeLine_eq]; omega, fun Z hZ => hN _ _ ⟨Z, xs ++ vs, rfl, ((s1.trans s2).trans sY).trans (same_upd hZ), upd_same, ?_⟩⟩
        rw [e5]
        exact pr_append (pr_same pX ((s2.trans sY).trans (same_upd hZ))) (pr_same pv2 (sY.trans (same_upd hZ)))
end
end RM
namespace RM
open PySem PySem.Spec PyProof.Rows L2
theorem callR_or {X : Cx} {f : Value} {r1 r2 : List V → Hp → VK → Prop} (h1 : CallR X f r1) (h2 : CallR X f r2) : CallR X f (fun xs H Q => r1 xs H Q ∨ r2 xs H Q) := by
  intro pins s σ H xs us Q I rv h
  rcases h with h | h
  · exact h1 pins s σ H xs us Q I rv h
  · exact h2 pins s σ H xs us Q I rv h
/-- how the two classes compare -/
structure EqK (K : PySem.W.Frag) (Cr Ct f : Addr) : Prop where
  er : EqOf K Cr f
  et : EqOf K Ct f
  rr : PySem.W.notFirst K Cr (.ref Cr) = true
  tt : PySem.W.notFirst K Ct (.ref Ct) = true
  tr : PySem.W.notFirst K Ct (.ref Cr) = true
  ne : Cr ≠ Ct
  sub : PySem.W.subIn K (.ref Ct) (.ref Cr) = some true
  oddR : ∀ n ∈ ["NoneType", "int", "tuple", "str", "list"], PySem.W.notFirst K Cr (.type n) = true
  oddT : ∀ n ∈ ["NoneType", "int", "tuple", "str", "list"], PySem.W.notFirst K Ct (.type n) = true
  kit : ∀ n ∈ ["NoneType", "int", "tuple", "str", "list"], PySem.W.kitOne K (.type n) (.ref Cr) = some false
/-! ### what is kept -/
def RuX (K : PySem.W.Frag) (C X : Addr) (H : Hp) (a : Addr) (wd m : Nat) (Ls : List (List Int)) : Prop := ∃ (dx : Addr) (fs : List (Str × V)) (l : Addr) (xs : List V), H a = some (.ins C dx fs) ∧ fs.lookup ("held_size" : Str) = some (.int (wd : Int)) ∧ fs.lookup ("held_modulus" : Str) = some (.int (m : Int)) ∧ fs.lookup ("held_rests" : Str) = some (.ref l) ∧ H l = some (.lst xs) ∧ Paired (gT K H) xs Ls ∧ fs.lookup ("taken" : Str) = none ∧ l ≠ X
theorem RuX.ru {K : PySem.W.Frag} {C X : Addr} {H : Hp} {a : Addr} {wd m : Nat} {Ls : List (List Int)} (h : RuX K C X H a wd m Ls) : Ru K C H a wd m Ls := by
  obtain ⟨dx, fs, l, xs, h1, h2, h3, h4, h5, h6, h7, _⟩ := h
  exact ⟨dx, fs, l, xs, h1, h2, h3, h4, h5, h6, h7⟩
theorem rux_same {K : PySem.W.Frag} {C X : Addr} {H H' : Hp} {a : Addr} {wd m : Nat} {Ls : List (List Int)} (h : RuX K C X H a wd m Ls) (s : Same H H') : RuX K C X H' a wd m Ls := by
  obtain ⟨dx, fs, l, xs, h1, h2, h3, h4, h5, h6, h7, h8⟩ := h
  exact ⟨dx, fs, l, xs, s _ _ h1, h2, h3, h4, s _ _ h5, pr_same h6 s, h7, h8⟩
theorem rux_keep {K : PySem.W.Frag} {C X D : Addr} {H H' : Hp} {a : Addr} {wd m : Nat} {Ls : List (List Int)} {u : HO} (h : RuX K C X H a wd m Ls) (k : Kb D H H') (hD : H D = some u) (n1 : ∀ C dx fs, u ≠ .ins C dx fs) (n2 : ∀ xs, u ≠ .tup xs) (n3 : ∀ o x, u ≠ .frz o x)
    (hl : ∀ l xs, H l = some (.lst xs) → l ≠ X → l ≠ D) : RuX K C X H' a wd m Ls := by
  obtain ⟨dx, fs, l, xs, h1, h2, h3, h4, h5, h6, h7, h8⟩ := h
  exact ⟨dx, fs, l, xs, k _ _ h1 (ne_of h1 hD fun z => n1 _ _ _ z.symm), h2, h3, h4, k _ _ h5 (hl l xs h5 h8), pr_ext h6 fun _ _ _ g => tupI_keep g k hD n2 n3, h7, h8⟩
/-- one kept tuple -/
def KpOk (K : PySem.W.Frag) (Cr Ct X : Addr) (H : Hp) (x : V) : Prop := ∃ (tp a C : Addr) (p : Nat × Nat) (t : List Nat) (v : V), x = .ref tp ∧ H tp = some (.tup [.ref a, .int (p.1 : Int), .int (p.2 : Int), v]) ∧ (C = Cr ∨ C = Ct) ∧ p ∈ rules ∧ t ∈ permsOf p.1 ∧ RuX K C X H a p.1 p.2 (moved p.1 p.2 t) ∧ TupI K H v (oI t)
theorem kp_same {K : PySem.W.Frag} {Cr Ct X : Addr} {H H' : Hp} {x : V} (h : KpOk K Cr Ct X H x) (s : Same H H') : KpOk K Cr Ct X H' x := by
  obtain ⟨tp, a, C, p, t, v, h1, h2, h3, h4, h5, h6, h7⟩ := h
  exact ⟨tp, a, C, p, t, v, h1, s _ _ h2, h3, h4, h5, rux_same h6 s, tupI_same h7 s⟩
theorem kp_keep {K : PySem.W.Frag} {Cr Ct X D : Addr} {H H' : Hp} {x : V} {u : HO} (h : KpOk K Cr Ct X H x) (k : Kb D H H') (hD : H D = some u) (n1 : ∀ C dx fs, u ≠ .ins C dx fs) (n2 : ∀ xs, u ≠ .tup xs) (n3 : ∀ o x, u ≠ .frz o x)
    (hl : ∀ l xs, H l = some (.lst xs) → l ≠ X → l ≠ D) : KpOk K Cr Ct X H' x := by
  obtain ⟨tp, a, C, p, t, v, h1, h2, h3, h4, h5, h6, h7⟩ := h
  exact ⟨tp, a, C, p, t, v, h1, k _ _ h2 (ne_of h2 hD fun z => n2 _ z.symm), h3, h4, h5, rux_keep h6 k hD n1 n2 n3 hl, tupI_keep h7 k hD n2 n3⟩
/-- the state of the building -/
structure KSt (K : PySem.W.Frag) (Cr Ct X d c : Addr) (H : Hp) (acc : List V) : Prop where
  spr : Spr H d c
  at_ : H X = some (.lst acc)
  ok : ∀ x ∈ acc, KpOk K Cr Ct X H x
theorem kst_same {K : PySem.W.Frag} {Cr Ct X d c : Addr} {H H' : Hp} {acc : List V} (h : KSt K Cr Ct X d c H acc) (s : Same H H') : KSt K Cr Ct X d c H' acc := ⟨spr_same h.spr s, s _ _ h.at_, fun x m => kp_same (h.ok x m) s⟩
theorem kst_spr {K : PySem.W.Frag} {Cr Ct X d c : Addr} {H H' : Hp} {acc : List V} (h : KSt K Cr Ct X d c H acc) (k : Kb d H H') (s : Spr H' d c) : KSt K Cr Ct X d c H' acc := by
  obtain ⟨u, g1, g2, g3, g4, g5⟩ := spr_dk h.spr
  exact ⟨s, lst_spr h.at_ h.spr k, fun x m => kp_keep (h.ok x m) k g1 g5 g2 g3 fun l xs e _ => ne_of e g1 fun z => g4 _ z.symm⟩
theorem kst_push {K : PySem.W.Frag} {Cr Ct X d c tp a C : Addr} {H : Hp} {acc : List V} {p : Nat × Nat} {t : List Nat} {v : V} (h : KSt K Cr Ct X d c H acc) (nd : d ≠ X) (nc : c ≠ X) (htp : H tp = some (.tup [.ref a, .int (p.1 : Int), .int (p.2 : Int), v])) (hC : C = Cr ∨ C = Ct) (hp : p ∈ rules)
    (ht : t ∈ permsOf p.1) (ru : RuX K C X H a p.1 p.2 (moved p.1 p.2 t)) (hv : TupI K H v (oI t)) : KSt K Cr Ct X d c (upd H X (.lst (acc ++ [.ref tp]))) (acc ++ [.ref tp]) := by
  have go : ∀ x, KpOk K Cr Ct X H x → KpOk K Cr Ct X (upd H X (.lst (acc ++ [.ref tp]))) x := fun x hx => kp_keep hx Kb.upd h.at_ (fun _ _ _ z => HO.noConfusion z) (fun _ z => HO.noConfusion z) (fun _ _ z => HO.noConfusion z) fun l xs _ n => n
  refine ⟨spr_kb h.spr Kb.upd nd nc, upd_same, fun x m => ?_⟩
  rcases List.mem_append.mp m with q | q
  · exact go x (h.ok x q)
  · rw [List.mem_singleton.mp q]
    exact go _ ⟨tp, a, C, p, t, v, rfl, htp, hC, hp, ht, ru, hv⟩
/-! ### instances made -/
theorem made_same {H H' : Hp} {x dx : Addr} {o : HO} (hx : H x = none) (hdx : H dx = none) (k : Kb x (upd (upd H dx o) x u) H') : Same H H' := fun b q e => by
  have n1 := ne_of_none e hx
  have n2 := ne_of_none e hdx
  exact k b q (by rw [upd_ne n1, upd_ne n2]; exact e) n1
theorem made_none {H : Hp} {x dx l X : Addr} {o u : HO} {acc : List V} (h : upd (upd H dx o) x u l = none) (hX : H X = some (.lst acc)) : l ≠ X := by
  rintro rfl
  by_cases e1 : l = x
  · rw [e1, upd_same] at h; cases h
  · rw [upd_ne e1] at h
    by_cases e2 : l = dx
    · rw [e2, upd_same] at h; cases h
    · rw [upd_ne e2, hX] at h; cases h
theorem mkT_read {K : PySem.W.Frag} {Ct X x dx : Addr} {H : Hp} {acc : List V} {p : Nat × Nat} {t : List Nat} {v : V} {R : Hp → Prop} (hp : p ∈ rules) (ho : OrdT H v t) (ht : t ∈ permsOf p.1) (hX : H X = some (.lst acc)) (hx : H x = none) (hdx : H dx = none) (hn : dx ≠ x)
    (k : ∀ H', Same H H' → RuX K Ct X H' x p.1 p.2 (moved p.1 p.2 t) → (∃ dx fs, H' x = some (.ins Ct dx fs) ∧ fs.lookup ("held_order" : Str) = some v) → R H') :
    spTInit (K := K) Ct (.ref x :: ([.int (p.1 : Int), .int (p.2 : Int), v] ++ [])) (upd (upd H dx (.own x)) x (.ins Ct dx [])) (fun v H2 => v = .non ∧ R H2) E0 := by
  refine ⟨x, dx, p, v, t, rfl, hp, ?_, ht, upd_same, fun H' l xs kb hl h2 h3 h4 => ⟨rfl, k H' (made_same hx hdx kb) ⟨dx, fsT p l v, l, xs, h2, rfl, rfl, rfl, h3, h4, rfl, made_none hl hX⟩ ⟨dx, fsT p l v, h2, rfl⟩⟩⟩
  exact ordT_same ho (made_same hx hdx fun _ _ e _ => e)
theorem mkR_read {K : PySem.W.Frag} {Cr X x dx : Addr} {H : Hp} {acc : List V} {p : Nat × Nat} {R : Hp → Prop} (RC : RCls K Cr Cr) (hp : p ∈ rules) (hX : H X = some (.lst acc)) (hx : H x = none) (hdx : H dx = none) (hn : dx ≠ x)
    (k : ∀ H', Same H H' → RuX K Cr X H' x p.1 p.2 (moved p.1 p.2 (List.range p.1)) → R H') :
    spInit (K := K) Cr (.ref x :: ([.int (p.1 : Int), .int (p.2 : Int)] ++ [])) (upd (upd H dx (.own x)) x (.ins Cr dx [])) (fun v H2 => v = .non ∧ R H2) E0 := by
  refine ⟨Cr, x, dx, p, RC, rfl, hp, upd_same, fun H' l xs kb hl h2 h3 h4 => ⟨rfl, k H' (made_same hx hdx kb) ⟨dx, _, l, xs, h2, rfl, rfl, rfl, h3, ?_, rfl, made_none hl hX⟩⟩⟩
  rw [(moved_id p hp).1]
  exact h4
theorem ord_rg {H : Hp} {q : Addr} {o : Obj} {n : Nat} (hd : o.dict = none) : OrdT (upd H q (.frz o (.tup (rgV 0 (n : Int))))) (.ref q) (List.range n) := ⟨q, o, rfl, by rw [upd_same, rg_oI]; rfl, hd⟩
theorem ord_rev {H : Hp} {q : Addr} {o : Obj} {n : Nat} (hd : o.dict = none) : OrdT (upd H q (.frz o (.tup (rgV 0 (n : Int)).reverse))) (.ref q) (List.range n).reverse := ⟨q, o, rfl, by rw [upd_same, rg_oI]; unfold oI; rw [List.map_reverse, List.map_reverse], hd⟩
theorem shows_nb (b : Bool) : Shows (.list [.bool b, .bool (!b)]) := by cases b <;> exact shows_of (by decide +kernel)
theorem shows_5 : Shows (.list [.bool false, .bool false, .bool false, .bool false, .bool false]) := shows_of (by decide +kernel)
/-- a == b, a != b -/
theorem eq_read {K : PySem.W.Frag} {Cr Ct fE X a b C C' : Addr} {H : Hp} {p q : Nat × Nat} {Ls Ms : List (List Int)} {neg : Bool} {Q : VK} (KC : KCls K) (EK : EqK K Cr Ct fE) (RCr : RCls K Cr Cr) (RCt : RCls K Cr Ct) (hC : C = Cr ∨ C = Ct) (hC' : C' = Cr ∨ C' = Ct)
    (ra : RuX K C X H a p.1 p.2 Ls) (rb : RuX K C' X H b q.1 q.2 Ms) (k : ∀ H', Same H H' → Q (.bl (turnB neg (decide (p.1 = q.1 ∧ p.2 = q.2 ∧ Ls = Ms)))) H') : rOwnEq K fE (spEqM (K := K) Cr) neg (.ref a) (.ref b) H Q := by
  obtain ⟨dx, fs, l, xs, h1, _⟩ := id ra
  obtain ⟨dy, gs, m, ys, g1, _⟩ := id rb
  have rc : ∀ {D : Addr}, D = Cr ∨ D = Ct → RCls K Cr D := fun h => by rcases h with rfl | rfl <;> assumption
  have RC := rc hC
  have RC' := rc hC'
  have first : EqOf K C fE → PySem.W.notFirst K C (.ref C') = true → rOwnEq K fE (spEqM (K := K) Cr) neg (.ref a) (.ref b) H Q := fun e n =>
    .inl ⟨a, C, dx, fs, _, rfl, h1, e, .base (.ins g1 RC'.cls RC'.ha KC.hn KC.htk RC'.hm), n, C, a, .ref b, p.1, p.2, Ls, RC, rfl, ra.ru, .inl ⟨C', b, q.1, q.2, Ms, RC', rfl, rb.ru, fun H' s => ⟨_, rfl, k H' s⟩⟩⟩
  rcases hC with rfl | rfl
  · rcases hC' with rfl | rfl
    · exact first EK.er EK.rr
    · refine .inr ⟨a, C, dx, fs, b, C', dy, gs, rfl, rfl, h1, g1, EK.ne, EK.sub, EK.et, C', b, .ref a, q.1, q.2, Ms, RC', rfl, rb.ru, .inl ⟨C, a, p.1, p.2, Ls, RC, rfl, ra.ru, fun H' s => ⟨_, rfl, ?_⟩⟩⟩
      rw [show (decide (q.1 = p.1 ∧ q.2 = p.2 ∧ Ms = Ls)) = decide (p.1 = q.1 ∧ p.2 = q.2 ∧ Ls = Ms) from decide_eq_decide.mpr ⟨fun ⟨x, y, z⟩ => ⟨x.symm, y.symm, z.symm⟩, fun ⟨x, y, z⟩ => ⟨x.symm, y.symm, z.symm⟩⟩]
      exact k H' s
  · rcases hC' with rfl | rfl
    · exact first EK.et EK.tr
    · exact first EK.et EK.tt
theorem ilist_tcs {K : PySem.W.Frag} {Ls : List (List Int)} {σ : L2.St} {H : Hp} {R : It → Hp → Prop} (hz : Ls.length ≤ sizeLine) (h : ∀ H3 vs, Same H H3 → Paired (gT K H3) vs Ls → ∀ L, H3 L = none → R (Itl K L) (upd H3 L (.lst vs))) : iList K (tLst (tCs Ls)) σ H R :=
  tcs_read (K := K) Ls σ H _ fun H' vs s pr => ⟨by rw [pr.length]; exact hz, fun L hL => ⟨L, rfl, ⟨vs, SqL.of upd_same⟩, h _ _ s pr L hL⟩⟩
theorem gname_in {i : Nat} {v : V} {σ : L2.St} {H : Hp} {Q : L2.St → Hp → Prop} (h : Q (σ.set i (some v)) H) : gName i v σ H Q := h
theorem listO_read {K : PySem.W.Frag} {Cr Ct X oa C f1 f2 : Addr} {H : Hp} {p : Nat × Nat} {t : List Nat} {Q : VK} (hp : p ∈ rules) (ht : t ∈ permsOf p.1) (hC : C = Cr ∨ C = Ct) (R1 : RCls K Cr Cr) (R2 : RCls K Cr Ct) (S1 : SpecOf K Cr "__len__" f1) (S2 : SpecOf K Ct "__len__" f2)
    (ru : RuX K C X H oa p.1 p.2 (moved p.1 p.2 t)) (k : ∀ q zs, H q = none → Q (.ref q) (upd H q (.lst zs))) :
    rListO K Cr f1 (fun vs H Q E => spLenM (K := K) Cr (vs ++ []) H Q E) [.ref oa] H Q ∨ rListO K Ct f2 (fun vs H Q E => spLenM (K := K) Cr (vs ++ []) H Q E) [.ref oa] H Q := by
  have st := shows_told p hp t ht
  simp only [Bool.and_eq_true, decide_eq_true_eq] at st
  obtain ⟨_, _, _, _, st5⟩ := st
  obtain ⟨dx, fs, l, zs, h1, h2, h3, h4, h5, h6, h7, h8⟩ := id ru
  have hzl := h6.length
  rcases hC with rfl | rfl
  · exact .inl ⟨oa, dx, fs, l, zs, rfl, h1, h4, h5, by omega, S1, fun H' s' => ⟨C, oa, _, _, _, R1, rfl, ru_same ru.ru s', by rw [hzl], rfl⟩, fun q hq => k q zs hq⟩
  · exact .inr ⟨oa, dx, fs, l, zs, rfl, h1, h4, h5, by omega, S2, fun H' s' => ⟨C, oa, _, _, _, R2, rfl, ru_same ru.ru s', by rw [hzl], rfl⟩, fun q hq => k q zs hq⟩
theorem andv_join {ta tb : TE} {σ : L2.St} {H : Hp} {Q : VK} (J : V → Hp → Prop) (hJ : ∀ v H', J v H' → Q v H') (h : ∀ Q' : VK, (∀ v H', J v H' → Q' v H') → tAndV ta tb σ H Q') : tAndV ta tb σ H Q := h Q hJ
section
variable {X : Cx} {j1 j2 kk : Nat} {p1 p2 pos : Pos}
theorem pe_tup2 {a b : Int} : PE X (.Tuple [.Constant (.int a) j1 p1, .Constant (.int b) j2 p2] kk pos) (tTupC [a, b]) :=
  ⟨fun pins s σ H Q I h => (pe_tup (pa_cons pe_int (pa_cons pe_int pa_nil))).run pins s σ H Q I ⟨by show 2 ≤ sizeLine; decide, h⟩⟩
end
section
variable {P : Program} {w : World} {K : PySem.W.Frag} {mg : Str → Option Value} {base : Heap} {Cr Ct : Addr}
/-! law: 65 -/
def spLaw : Sp := fun vs H Q _ => ∃ (a : Addr) (ns : List Int), vs = [.ref a] ∧ SqL K H a (ns.map V.int) ∧ ns.length ≤ sizeLine ∧ ∀ H', Q (.bl true) H'
def nLaw : List Str := ["_law_script", "_law_spring_here", "_law_kept", "_law_wide", "_law_way", "_law_lap", "_law_turn", "_law_one", "_law_other", "_law_far", "_law_step", "_law_late", "_law_due", "_law_odd"]
theorem sc_law : FnScope nLaw ["_law_script"] (defScope (top 65)) := ⟨rfl, rfl, rfl, by decide +kernel, rfl, by decide +kernel, by decide +kernel⟩
theorem c_law {fT fR fE : Addr} {fdT fdR fdE : FuncData} (T : Tx K mg) (KC : KCls K) (D : DefAt K mg "law" (top 65)) (RKr : RuleK P w K mg base Cr Cr) (RKt : RuleK P w K mg base Cr Ct) (EK : EqK K Cr Ct fE)
    (MkT : L2.Mk K Ct fT) (FT : FnOk P w K mg base CX0 5 fT fdT psS (spTInit (K := K) Ct)) (bT : Binds K fdT psS []) (hmT : mg "TurnedRule" = some (.ref Ct))
    (MkR : L2.Mk K Cr fR) (FR : FnOk P w K mg base CX0 4 fR fdR ["self", "size", "modulus"] (spInit (K := K) Cr)) (bR : Binds K fdR ["self", "size", "modulus"] []) (hmR : mg "Rule" = some (.ref Cr))
    (FE0 : FnOk P w K mg base CX0 1 fE fdE ["self", "other"] (spEqM (K := K) Cr)) (bE : Binds K fdE ["self", "other"] [])
    (hO : ∃ p g fd, PropOf K Ct "order_now" p g ∧ FnOk P w K mg base CX0 1 g fd ["self"] (spOrdM (K := K) Cr) ∧ Binds K fd ["self"] [])
    (CSp : Cal P w K mg base "_law_spring" 1 ["_law_script"] (spSpring (K := K))) (CT : Cal P w K mg base "_law_turn_of" 2 ["_law_spring_here", "_law_wide"] spTurnOf) (CM : Cal P w K mg base "_law_moved" 2 ["_law_wide", "_law_way", "_law_turn"] (spMoved (K := K)))
    (CSa : CalG P w K mg base "_law_same" 1 ["_law_told", "_law_due"] (spSame (K := K))) (CTo : CalG P w K mg base "_law_is_told" 7 ["_law_one", "_law_wide", "_law_way", "_law_turn"] (spTold (K := K) P w mg base Cr))
    (CRa : CalG P w K mg base "_law_are_rays_right" 8 ["_law_spring_here", "_law_one", "_law_wide", "_law_way", "_law_turn"] (spRays (K := K) P w mg base Cr))
    (CLo : CalG P w K mg base "_law_is_lot_right" 8 ["_law_spring_here", "_law_one", "_law_wide", "_law_way", "_law_turn"] (spLot (K := K) P w mg base Cr)) :
    CalG P w K mg base "law" 9 ["_law_script"] (spLaw (K := K)) := by
  refine calG_mk D sc_law (fun _ _ _ _ _ _ us hl => match us, hl with | [_], _ => rfl) (fun vs H Q E h => ?_) (fun cdv f A hg outer s H vs Q hr h => ?_)
  · obtain ⟨a, ns, rfl, _⟩ := h
    rfl
  · obtain ⟨a, ns, rfl, hq, hn, k⟩ := h
    obtain ⟨pO, gO, fdO, prO, FO, bO⟩ := hO
    obtain ⟨fLr, fdLr, spLr, FLr, bLr⟩ := RKr.len
    obtain ⟨fLt, fdLt, spLt, FLt, bLt⟩ := RKt.len
    obtain ⟨fIr, JR⟩ := RKr.iter
    obtain ⟨fIt, JT⟩ := RKt.iter
    have FLR := FnOk.raw FLr bLr .nil
    have FLT := FnOk.raw FLt bLt .nil
    have FE : FnR P w K mg base CX0 1 fE (spEqM (K := K) Cr) := by
      have q := FnOk.raw FE0 bE .nil
      simp only [List.append_nil] at q
      exact q
    refine ⟨_, (pss_cons (ps_set (i := 1) sc_law.nd rfl (Or.inl rfl) (pe_cal CSp (hr.mono (by decide)) (pa_cons (pv 0) pa_nil)))
      (pss_cons (ps_set (i := 2) sc_law.nd rfl (Or.inl rfl) (pe_lst pa_nil))
      (pss_cons (ps_for PassesOwn.never rfl (pi_list (pe_lst (pa_cons pe_tup2 (pa_cons pe_tup2 (pa_cons pe_tup2 (pa_cons pe_tup2 (pa_cons pe_tup2 pa_nil))))))) (pg_tup rfl (pgs_cons (pg_name (i := 3) sc_law.nd rfl (Or.inl rfl)) (pgs_cons (pg_name (i := 4) sc_law.nd rfl (Or.inl rfl)) pgs_nil))) (pss_cons (ps_for PassesOwn.never rfl (pi_range1 (by rfl) T.range (pa_cons pe_int pa_nil)) (pg_name (i := 5) sc_law.nd rfl (Or.inl rfl)) (pss_cons (ps_set (i := 6) sc_law.nd rfl (Or.inl rfl) (pe_cal CT (hr.mono (by decide)) (pa_cons (pv 1) (pa_cons (pv 3) pa_nil))))
      (pss_cons (ps_set (i := 7) sc_law.nd rfl (Or.inr rfl) (pe_make MkT FT (hr.mono (by decide)) (by rfl) hmT bT .nil pass0 (pa_cons (pv 3) (pa_cons (pv 4) (pa_cons (pv 6) pa_nil)))))
      (pss_cons (ps_if (PW.pt (pw_or (pt_not (pt_val (pe_calG CTo hg (hr.mono (by decide)) (pa_cons (pv 7) (pa_cons (pv 3) (pa_cons (pv 4) (pa_cons (pv 6) pa_nil))))))) (pw_or1 (pt_not (pt_val (pe_calG CSa hg (hr.mono (by decide)) (pa_cons (pe_prop (pv 7) RKt.rc.cls prO FO (hr.mono (by decide)) bO .nil pass0 rfl) (pa_cons (pv 6) pa_nil)))))))) (pss_one (ps_ret pe_bl)) pss_nil)
      (pss_cons (ps_if (pt_not (pt_val (pe_calG CRa hg (hr.mono (by decide)) (pa_cons (pv 1) (pa_cons (pv 7) (pa_cons (pv 3) (pa_cons (pv 4) (pa_cons (pv 6) pa_nil)))))))) (pss_one (ps_ret pe_bl)) pss_nil)
      (pss_cons (ps_if (PW.pt (pw_and (pt_cmpR op_eq (pv 5) pe_int (nomark _)) (pw_and1 (pt_not (pt_val (pe_calG CLo hg (hr.mono (by decide)) (pa_cons (pv 1) (pa_cons (pv 7) (pa_cons (pv 3) (pa_cons (pv 4) (pa_cons (pv 6) pa_nil))))))))))) (pss_one (ps_ret pe_bl)) pss_nil)
      (pss_one (ps_expr (pe_bm PySem.F.plainAttrs_list PySem.F.slot_list_append PySem.F.type_list_append mt_append (pv 2) (pa_cons (pe_tup (pa_cons (pv 7) (pa_cons (pv 3) (pa_cons (pv 4) (pa_cons (pv 6) pa_nil))))) pa_nil))))))))))
      (pss_cons (ps_expr (pe_bm PySem.F.plainAttrs_list PySem.F.slot_list_append PySem.F.type_list_append mt_append (pv 2) (pa_cons (pe_tup (pa_cons (pe_make MkR FR (hr.mono (by decide)) (by rfl) hmR bR .nil pass0 (pa_cons (pv 3) (pa_cons (pv 4) pa_nil))) (pa_cons (pv 3) (pa_cons (pv 4) (pa_cons (pe_tupRgF rfl (by rfl) T.tuple (prg_1 (by rfl) T.range (pv 3))) pa_nil))))) pa_nil)))
      (pss_one (ps_expr (pe_bm PySem.F.plainAttrs_list PySem.F.slot_list_append PySem.F.type_list_append mt_append (pv 2) (pa_cons (pe_tup (pa_cons (pe_make MkT FT (hr.mono (by decide)) (by rfl) hmT bT .nil pass0 (pa_cons (pv 3) (pa_cons (pv 4) (pa_cons (pe_revT (pe_tupRgF rfl (by rfl) T.tuple (prg_1 (by rfl) T.range (pv 3)))) pa_nil)))) (pa_cons (pv 3) (pa_cons (pv 4) (pa_cons (pe_revT (pe_tupRgF rfl (by rfl) T.tuple (prg_1 (by rfl) T.range (pv 3)))) pa_nil))))) pa_nil)))))))
      (pss_cons (ps_for PassesOwn.never rfl (pi_list (pv 2)) (pg_tup rfl (pgs_cons (pg_name (i := 7) sc_law.nd rfl (Or.inr rfl)) (pgs_cons (pg_name (i := 3) sc_law.nd rfl (Or.inl rfl)) (pgs_cons (pg_name (i := 4) sc_law.nd rfl (Or.inl rfl)) (pgs_cons (pg_name (i := 6) sc_law.nd rfl (Or.inl rfl)) pgs_nil))))) (pss_cons (ps_for PassesOwn.never rfl (pi_list (pv 2)) (pg_tup rfl (pgs_cons (pg_name (i := 8) sc_law.nd rfl (Or.inl rfl)) (pgs_cons (pg_name (i := 9) sc_law.nd rfl (Or.inl rfl)) (pgs_cons (pg_name (i := 10) sc_law.nd rfl (Or.inl rfl)) (pgs_cons (pg_name (i := 11) sc_law.nd rfl (Or.inl rfl)) pgs_nil))))) (pss_cons (ps_set (i := 12) sc_law.nd rfl (Or.inl rfl) (pe_and (pe_cmpR (op_eqD hr.units) (pe_tup (pa_cons (pv 3) (pa_cons (pv 4) pa_nil))) (pe_tup (pa_cons (pv 9) (pa_cons (pv 10) pa_nil))) (nomark _)) (pe_one (pe_cmpR (op_eqD hr.units) (pe_cal CM (hr.mono (by decide)) (pa_cons (pv 3) (pa_cons (pv 4) (pa_cons (pv 6) pa_nil)))) (pe_cal CM (hr.mono (by decide)) (pa_cons (pv 9) (pa_cons (pv 10) (pa_cons (pv 11) pa_nil)))) (nomark _)))))
      (pss_one (ps_if (pt_not (pt_val (pe_calG CSa hg (hr.mono (by decide)) (pa_cons (pe_lst (pa_cons (pe_cmpR (op_ownEq FE (hr.mono (by decide))) (pv 7) (pv 8) (nomark _)) (pa_cons (pe_cmpR (op_ownNe FE (hr.mono (by decide))) (pv 7) (pv 8) (nomark _)) pa_nil))) (pa_cons (pe_lst (pa_cons (pv 12) (pa_cons (pe_not (pv 12)) pa_nil))) pa_nil))))) (pss_one (ps_ret pe_bl)) pss_nil))))
      (pss_cons (ps_if (pt_not (pt_val (pe_calG CSa hg (hr.mono (by decide)) (pa_cons (pe_lc (own := [("_law_odd", 13)]) (g := gName 13) (tt := tYes) (te := tOp (rOwnEq K fE (spEqM (K := K) Cr) false) (tVar 7) (tVar 13)) rfl sc_law.nd  (pi_list (pe_lst (pa_cons pe_non (pa_cons pe_int (pa_cons (pe_tup (pa_cons (pv 3) (pa_cons (pv 4) pa_nil))) (pa_cons pe_str (pa_cons (pe_callTy (callR_or (call_listO rfl T JR FLR (hr.mono (by decide))) (call_listO rfl T JT FLT (hr.mono (by decide)))) (by rfl) T.list rfl (pa_cons (pv 7) pa_nil)) pa_nil))))))) (blkOk_by (N := nLaw) (sc := defScope (top 65)) (by decide +kernel)) (fun _ _ _ _ _ => pg_name (i := 13) sc_law.nd rfl (Or.inl rfl)) (fun _ _ _ _ _ => pts_nil) (fun _ _ _ _ _ => pe_cmpR (op_ownEq FE (by exact hr.mono (by decide))) (pv 7) (pv 13) (nomark _))) (pa_cons (pe_op op_rep (pe_lst (pa_cons pe_bl pa_nil)) pe_int) pa_nil))))) (pss_one (ps_ret pe_bl)) pss_nil)
      (pss_one (ps_if (pt_not (pt_val (pe_calG CTo hg (hr.mono (by decide)) (pa_cons (pv 7) (pa_cons (pv 3) (pa_cons (pv 4) (pa_cons (pv 6) pa_nil))))))) (pss_one (ps_ret pe_bl)) pss_nil)))))
      (pss_one (ps_ret pe_bl)))))), ?_⟩
    refine ⟨_, rfl, a, ns, rfl, hq, hn, fun d c H1 s1 hs1 => ⟨by show 0 ≤ sizeLine; decide, fun X hX => ?_⟩⟩
    obtain ⟨nd, nc⟩ := spr_ne hs1 hX
    have st0 : KSt K Cr Ct X d c (upd H1 X (.lst [])) [] := ⟨spr_same hs1 (same_upd hX), upd_same, fun x m => absurd m (by simp)⟩
    generalize upd H1 X (.lst []) = H2 at st0
    refine gname_in ?_
    dsimp only
    refine seq_join (fun σ G => ∃ (o3 o4 o5 o6 o7 : Option V) (acc : List V), σ = [some (.ref a), some (.ref d), some (.ref X), o3, o4, o5, o6, o7, none, none, none, none, none, none] ∧ KSt K Cr Ct X d c G acc ∧ acc.length ≤ 20) ?_ fun NX hNX => ?_
    · rintro σ G0 ⟨o3, o4, o5, o6, o7, acc, rfl, st, hal⟩
      refine ⟨_, rfl, X, rfl, ⟨_, SqL.of st.at_⟩, for_list (xs := acc) (fun i σ G => ∃ (o3 o4 o5 o6 o7 o8 o9 o10 o11 o12 : Option V), σ = [some (.ref a), some (.ref d), some (.ref X), o3, o4, o5, o6, o7, o8, o9, o10, o11, o12, none] ∧ Same G0 G)
        ⟨o3, o4, o5, o6, o7, none, none, none, none, none, rfl, fun _ _ e => e⟩ ?_ ?_ ?_⟩
      · rintro i σ G _ ⟨_, _, _, _, _, _, _, _, _, _, _, sG⟩
        exact SqL.of (sG _ _ st.at_)
      · rintro i x σ G hx ⟨o3, o4, o5, o6, o7, o8, o9, o10, o11, o12, rfl, sG⟩
        obtain ⟨tp, oa, C, p, t, v, rfl, htp, hC, hp, ht, ru, hv⟩ := kp_same (st.ok x (List.mem_of_getElem? hx)) sG
        have RK : RuleK P w K mg base Cr C := by rcases hC with rfl | rfl <;> assumption
        refine ⟨tp, _, rfl, SqT.of htp, rfl, _, _, rfl, _, _, rfl, _, _, rfl, _, _, rfl, rfl, ?_⟩
        refine ⟨_, rfl, X, rfl, ⟨_, SqL.of (sG _ _ st.at_)⟩, for_list (xs := acc) (fun j σ G2 => ∃ (o8 o9 o10 o11 o12 : Option V), σ = [some (.ref a), some (.ref d), some (.ref X), some (.int (p.1 : Int)), some (.int (p.2 : Int)), o5, some v, some (.ref oa), o8, o9, o10, o11, o12, none] ∧ Same G G2)
          ⟨o8, o9, o10, o11, o12, rfl, fun _ _ e => e⟩ ?_ ?_ ?_⟩
        · rintro j σ G2 _ ⟨_, _, _, _, _, _, sG2⟩
          exact SqL.of (sG2 _ _ (sG _ _ st.at_))
        · rintro j y σ G2 hy ⟨o8, o9, o10, o11, o12, rfl, sG2⟩
          obtain ⟨tq, ob, C', p', t', v', rfl, htq, hC', hp', ht', rub, hvb⟩ := kp_same (st.ok y (List.mem_of_getElem? hy)) (sG.trans sG2)
          have ru2 := rux_same ru sG2
          have hv2 := tupI_same hv sG2
          refine ⟨tq, _, rfl, SqT.of htq, rfl, _, _, rfl, _, _, rfl, _, _, rfl, _, _, rfl, rfl, ?_⟩
          dsimp only [tSeq, tAsg]
          refine andv_join (fun z G3 => z = .bl (decide (p.1 = p'.1 ∧ p.2 = p'.2 ∧ moved p.1 p.2 t = moved p'.1 p'.2 t')) ∧ Same G2 G3) ?_ ?_
          · rintro _ G3 ⟨rfl, s3⟩
            refine ⟨_, rfl, _, rfl, eq_read (X := X) KC EK RKr.rc RKt.rc hC hC' (rux_same ru2 s3) (rux_same rub s3) fun G4 s4 => ⟨_, rfl, _, rfl, eq_read (X := X) KC EK RKr.rc RKt.rc hC hC' (rux_same (rux_same ru2 s3) s4) (rux_same (rux_same rub s3) s4) fun G5 s5 => ⟨by show 2 ≤ sizeLine; decide, fun L1 hL1 => ⟨_, rfl, _, rfl, _, rfl, by show 2 ≤ sizeLine; decide, fun L2 hL2 => ?_⟩⟩⟩⟩
            generalize decide (p.1 = p'.1 ∧ p.2 = p'.2 ∧ moved p.1 p.2 t = moved p'.1 p'.2 t') = B at *
            have sa := same_upd (o := .lst [.bl (turnB false B), .bl (turnB true B)]) hL1
            have sb := same_upd (o := .lst [.bl B, .bl (!B)]) hL2
            exact ⟨.ref L1, .ref L2, .list [.bool B, .bool (!B)], rfl, .lst (SqL.of (sb _ _ upd_same)) (.cons (.bl _) (.cons (.bl _) .nil)), .lst (SqL.of upd_same) (.cons (.bl _) (.cons (.bl _) .nil)), shows_nb B, true, rfl, ite_f rfl ⟨_, _, _, _, _, rfl, ((((sG2.trans s3).trans s4).trans s5).trans sa).trans sb⟩⟩
          · intro Q' q'
            refine ⟨_, rfl, _, rfl, by show 2 ≤ sizeLine; decide, fun A1 hA1 => ⟨_, rfl, _, rfl, by show 2 ≤ sizeLine; decide, fun A2 hA2 => ?_⟩⟩
            have sa := same_upd (o := .tup [.int (p.1 : Int), .int (p.2 : Int)]) hA1
            have sb := same_upd (o := .tup [.int (p'.1 : Int), .int (p'.2 : Int)]) hA2
            have sab := sa.trans sb
            refine ⟨dT [(p.1 : Int), (p.2 : Int)], dT [(p'.1 : Int), (p'.2 : Int)], .tup (SqT.of (sb _ _ upd_same)) (.cons (.int _) (.cons (.int _) .nil)), .tup (SqT.of upd_same) (.cons (.int _) (.cons (.int _) .nil)), shp_dT _, shp_dT _, _, rfl, ?_⟩
            rw [eqv_dT]
            by_cases he : p.1 = p'.1 ∧ p.2 = p'.2
            · refine ite_t (decide_eq_true (by rw [he.1, he.2])) ?_
              refine ⟨_, rfl, _, rfl, _, rfl, p, t, v, rfl, hp, tupI_same hv2 sab, ht, fun H1' m1 xs1 s1' hm1 pm1 => ⟨_, rfl, _, rfl, _, rfl, p', t', v', rfl, hp', tupI_same (tupI_same hvb sab) s1', ht', fun H2' m2' xs2 s2' hm2 pm2 => ⟨dL (moved p.1 p.2 t), dL (moved p'.1 p'.2 t'), dp_list (SqL.of (s2' _ _ hm1)) (pr_same pm1 s2'), dp_list (SqL.of hm2) pm2, shp_dL _, shp_dL _, ?_⟩⟩⟩
              rw [eqv_dL]
              refine q' _ _ ⟨congrArg V.bl (decide_eq_decide.mpr ⟨fun e => ⟨he.1, he.2, e⟩, fun e => e.2.2⟩), (sab.trans s1').trans s2'⟩
            · refine ite_f (decide_eq_false fun e => ?_) (q' _ _ ⟨congrArg V.bl (decide_eq_false fun e => he ⟨e.1, e.2.1⟩).symm, sab⟩)
              simp only [List.cons.injEq, Int.ofNat_inj, and_true] at e
              exact he e
        · rintro σ G2 ⟨o8, o9, o10, o11, o12, rfl, sG2⟩
          have ru2 := rux_same ru sG2
          have hv2 := tupI_same hv sG2
          refine ⟨_, rfl, _, rfl, by show 2 ≤ sizeLine; decide, fun tt htt => ⟨_, rfl, ?_⟩⟩
          have sT := same_upd (o := .tup [.int (p.1 : Int), .int (p.2 : Int)]) htt
          have eT := upd_same (H := G2) (a := tt) (o := .tup [.int (p.1 : Int), .int (p.2 : Int)])
          generalize upd G2 tt (.tup [.int (p.1 : Int), .int (p.2 : Int)]) = G3 at *
          refine listO_read (X := X) hp ht hC RKr.rc RKt.rc spLr spLt (rux_same ru2 sT) fun q zs hq2 => ⟨by show 5 ≤ sizeLine; decide, fun L5 hL5 => ?_⟩
          have sQ := same_upd (o := .lst zs) hq2
          have eQ := upd_same (H := G3) (a := q) (o := .lst zs)
          generalize upd G3 q (.lst zs) = G4 at *
          have s5 := same_upd (o := .lst [.non, .int 0, .ref tt, .str "rule", .ref q]) hL5
          have e5 := upd_same (H := G4) (a := L5) (o := .lst [.non, .int 0, .ref tt, .str "rule", .ref q])
          generalize upd G4 L5 (.lst [.non, .int 0, .ref tt, .str "rule", .ref q]) = G5 at *
          have sAll := (sT.trans sQ).trans s5
          have ru5 := rux_same ru2 sAll
          have hodd : Paired (fun (v : V) (n : String) => ∀ H', Same G5 H' → TyX K H' v (.type n)) [.non, .int 0, .ref tt, .str "rule", .ref q] ["NoneType", "int", "tuple", "str", "list"] :=
            .cons (fun _ _ => .base .non) (.cons (fun _ _ => .base (.int _)) (.cons (fun _ s => .base (.tup (s _ _ (s5 _ _ (sQ _ _ eT))))) (.cons (fun _ _ => .base (.str _)) (.cons (fun _ s => .base (.lst (s _ _ (s5 _ _ eQ)))) .nil))))
          have hEq : EqOf K C fE := by rcases hC with rfl | rfl; exact EK.er; exact EK.et
          have hNf : ∀ n ∈ ["NoneType", "int", "tuple", "str", "list"], PySem.W.notFirst K C (.type n) = true := by rcases hC with rfl | rfl; exact EK.oddR; exact EK.oddT
          refine ⟨L5, rfl, ⟨_, SqL.of e5⟩, fun D hD => lcL (G := gB) hodd (SqL.of e5) hD (by show 5 ≤ sizeLine; decide) stbB (p := fun _ => true) (f := fun _ => false) (lcT_yes fun _ => rfl) ?_ ?_⟩
          · rintro z n hn2 hz _ G6 s6 Q' q'
            obtain ⟨dx, fs, l, ls, h1, _⟩ := id (rux_same ru5 s6)
            exact ⟨_, rfl, _, rfl, .inl ⟨oa, C, dx, fs, _, rfl, h1, hEq, hz _ s6, hNf n hn2, C, oa, z, p.1, p.2, _, RK.rc, rfl, (rux_same ru5 s6).ru, .inr ⟨_, hz _ s6, EK.kit n hn2, false, rfl, q' _ _ (fun _ _ e => e) rfl⟩⟩⟩
          · intro G6 ys s6 hd6 pr6
            have e := pr_bl_eq pr6
            subst e
            refine ⟨by show 1 ≤ sizeLine; decide, fun Z hZ => ⟨Z, 5, [.bl false], rfl, rfl, upd_same, by decide, by decide, by show 1 * 5 ≤ sizeLine; decide, fun L2 hL2 => ?_⟩⟩
            have sZ := (same_upd (o := .lst [.bl false]) hZ).trans (same_upd (o := .lst (List.replicate (5 : Int).toNat [V.bl false]).flatten) hL2)
            refine ⟨.ref D, .ref L2, .list [.bool false, .bool false, .bool false, .bool false, .bool false], rfl, .lst (SqL.of (sZ _ _ hd6)) (.cons (.bl _) (.cons (.bl _) (.cons (.bl _) (.cons (.bl _) (.cons (.bl _) .nil))))), .lst (xs := [.bl false, .bl false, .bl false, .bl false, .bl false]) (SqL.of upd_same) (.cons (.bl _) (.cons (.bl _) (.cons (.bl _) (.cons (.bl _) (.cons (.bl _) .nil))))), shows_5, true, rfl, ite_f rfl ?_⟩
            have sF := (sAll.trans s6).trans sZ
            exact ⟨_, rfl, _, rfl, _, rfl, _, rfl, C, oa, p, t, v, RK, rfl, hp, (rux_same ru2 sF).ru, tupI_same hv2 sF, ht, fun G7 s7 => ⟨true, rfl, ite_f rfl ⟨_, _, _, _, _, _, _, _, _, _, rfl, ((sG.trans sG2).trans sF).trans s7⟩⟩⟩
      · rintro σ G ⟨o3, o4, o5, o6, o7, o8, o9, o10, o11, o12, rfl, sG⟩
        exact k G
    show iList K (tLst (tCs [[3, 2], [3, 3], [3, 4], [4, 2], [5, 2]])) _ _ _
    refine ilist_tcs (by show 5 ≤ sizeLine; decide) fun H3 vs s3 pvs L hL => ?_
    have stL := kst_same (kst_same st0 s3) (same_upd (o := .lst vs) hL)
    have pvL := pr_same pvs (same_upd (o := .lst vs) hL)
    have hLL := upd_same (H := H3) (a := L) (o := .lst vs)
    have nLX : L ≠ X := by
      rintro rfl
      rw [(kst_same st0 s3).at_] at hL
      cases hL
    generalize upd H3 L (.lst vs) = H4 at *
    have tup_at : ∀ {H'} {acc : List V} (_ : KSt K Cr Ct X d c H' acc) {x : V} {r : List Int}, (∀ b o, H4 b = some o → b ≠ d → b ≠ X → H' b = some o) → TupI K H4 x r → TupI K H' x r := by
      intro H' acc _ x r k2 h
      obtain ⟨t, rfl, q⟩ := h
      obtain ⟨u, g1, g2, g3, g4, g5⟩ := spr_dk stL.spr
      refine ⟨t, rfl, ?_⟩
      rcases q with (q | ⟨o, q⟩) | q
      · exact .inl (.inl (k2 _ _ q (ne_of q g1 fun z => g2 _ z.symm) (ne_of q stL.at_ fun z => HO.noConfusion z)))
      · exact .inl (.inr ⟨o, k2 _ _ q (ne_of q g1 fun z => g3 _ _ z.symm) (ne_of q stL.at_ fun z => HO.noConfusion z)⟩)
      · exact .inr q
    have nLd : L ≠ d := by
      obtain ⟨u, g1, _, _, g4, _⟩ := spr_dk stL.spr
      exact ne_of hLL g1 fun z => g4 _ z.symm
    refine for_list (xs := vs) (fun i σ H' => ∃ (o3 o4 o5 o6 o7 : Option V) (acc : List V), σ = [some (.ref a), some (.ref d), some (.ref X), o3, o4, o5, o6, o7, none, none, none, none, none, none] ∧ KSt K Cr Ct X d c H' acc ∧ acc.length ≤ 4 * i ∧ (∀ b o, H4 b = some o → b ≠ d → b ≠ X → H' b = some o))
      ⟨none, none, none, none, none, [], rfl, stL, Nat.le_refl _, fun b o e _ _ => e⟩ ?_ ?_ ?_
    · rintro i σ H' _ ⟨_, _, _, _, _, acc, _, _, _, k2⟩
      exact SqL.of (k2 _ _ hLL nLd nLX)
    · rintro i x σ H5 hx ⟨o3, o4, o5, o6, o7, acc, rfl, st5, hal, k2⟩
      have hi : i < vs.length := (List.getElem?_eq_some_iff.mp hx).1
      have hi5 : i < 5 := by rw [pvs.length] at hi; exact hi
      obtain ⟨r, hr2, hxr⟩ := pr_get pvL hx
      obtain ⟨p, hp, er⟩ : ∃ p ∈ rules, r = [(p.1 : Int), (p.2 : Int)] := by
        have hm := List.mem_of_getElem? hr2
        simp only [List.mem_cons, List.not_mem_nil, or_false] at hm
        rcases hm with e | e | e | e | e
        · exact ⟨(3, 2), by decide, e⟩
        · exact ⟨(3, 3), by decide, e⟩
        · exact ⟨(3, 4), by decide, e⟩
        · exact ⟨(4, 2), by decide, e⟩
        · exact ⟨(5, 2), by decide, e⟩
      subst er
      obtain ⟨tx, rfl, qx⟩ := tup_at st5 k2 hxr
      obtain ⟨p3, p5, m2, m4⟩ := rule_small hp
      obtain ⟨id1, id2, id3⟩ := moved_id p hp
      refine ⟨tx, _, rfl, qx, rfl, _, _, rfl, _, _, rfl, rfl, ?_⟩
      refine ⟨2, rfl, by decide, by decide, for_range (n := 2) (fun j σ H' => ∃ (o5 o6 o7 : Option V) (acc : List V), σ = [some (.ref a), some (.ref d), some (.ref X), some (.int (p.1 : Int)), some (.int (p.2 : Int)), o5, o6, o7, none, none, none, none, none, none] ∧ KSt K Cr Ct X d c H' acc ∧ acc.length ≤ 4 * i + j ∧ (∀ b o, H4 b = some o → b ≠ d → b ≠ X → H' b = some o))
        ⟨o5, o6, o7, acc, rfl, st5, by omega, k2⟩ ?_ ?_⟩
      · rintro j σ H6 hj ⟨o5, o6, o7, acc, rfl, st6, hal6, k6⟩
        refine ⟨_, rfl, _, rfl, d, c, p.1, rfl, st6.spr, p5, fun v t H7 ht ho kb7 hs7 => ?_⟩
        have st7 := kst_spr st6 kb7 hs7
        refine ⟨_, rfl, _, rfl, _, rfl, fun o dx hx2 hdx2 hne => mkT_read (Ct := Ct) (X := X) hp ho ht st7.at_ hx2 hdx2 hne ?_⟩
        rintro H8 s8 ru8 ⟨dx8, fs8, e8, f8⟩
        have st8 := kst_same st7 s8
        have hv8 : TupI K H8 v (oI t) := ordT_tup (ordT_same ho s8)
        have stt := shows_told p hp t ht
        simp only [Bool.and_eq_true, decide_eq_true_eq] at stt
        obtain ⟨_, _, stt3, _, _⟩ := stt
        refine ⟨_, rfl, _, rfl, _, rfl, _, rfl, Ct, o, p, t, v, RKt, rfl, hp, ru8.ru, hv8, ht, fun H9 s9 => ⟨true, rfl, ite_f rfl ?_⟩⟩
        have ru9 := rux_same ru8 s9
        have hv9 := tupI_same hv8 s9
        refine ⟨_, rfl, o, dx8, fs8, rfl, s9 _ _ e8, Ct, o, dx8, fs8, v, RKt.rc, rfl, s9 _ _ e8, f8, _, rfl, v, v, dT (oI t), rfl, dp_tup hv9, dp_tup hv9, shows_of stt3, true, rfl, ite_f rfl ?_⟩
        have st9 := kst_same st8 s9
        refine ⟨_, rfl, _, rfl, _, rfl, _, rfl, _, rfl, Ct, o, d, c, p, t, v, RKt, rfl, st9.spr, hp, ru9.ru, hv9, ht, fun H10 kb10 hs10 => ⟨true, rfl, ite_f rfl ?_⟩⟩
        have st10 := kst_spr st9 kb10 hs10
        have sprk : ∀ {G G' : Hp} (s : Spr G d c) (kk : Kb d G G'), RuX K Ct X G o p.1 p.2 (moved p.1 p.2 t) → RuX K Ct X G' o p.1 p.2 (moved p.1 p.2 t) := by
          intro G G' s kk h
          obtain ⟨u, g1, g2, g3, g4, g5⟩ := spr_dk s
          exact rux_keep h kk g1 g5 g2 g3 fun l xs e _ => ne_of e g1 fun z => g4 _ z.symm
        have ru10 := sprk st9.spr kb10 ru9
        have hv10 := tupI_spr hv9 st9.spr kb10
        dsimp only [tNext, tSeq, tIfS]
        refine and_joinP (fun b H' => b = false ∧ Kb d H10 H' ∧ Spr H' d c) ?_ ?_
        · rintro b H11 ⟨rfl, kb11, hs11⟩
          refine ite_f rfl ?_
          have st11 := kst_spr st10 kb11 hs11
          have ru11 := sprk st10.spr kb11 ru10
          have hv11 := tupI_spr hv10 st10.spr kb11
          refine ⟨_, rfl, .inl ⟨rfl, _, SqL.of st11.at_⟩, _, rfl, _, rfl, _, rfl, _, rfl, by show 4 ≤ sizeLine; decide, fun tp htp => ?_⟩
          have sT := same_upd (o := .tup [.ref o, .int (p.1 : Int), .int (p.2 : Int), v]) htp
          have st12 := kst_same st11 sT
          have nX : ∀ b, H11 b = none → b ≠ X := fun b e => by
            rintro rfl
            rw [st11.at_] at e
            cases e
          refine ⟨X, acc, .ref tp, rfl, rfl, st12.at_, by rw [sizeLine_eq]; omega, _, _, _, acc ++ [.ref tp], rfl, kst_push st12 nd nc upd_same (.inr rfl) hp ht (rux_same ru11 sT) (tupI_same hv11 sT), by rw [List.length_append]; show acc.length + 1 ≤ _; omega, fun b q e n1 n2 => ?_⟩
          rw [upd_ne n2]
          exact sT _ _ (kb11 _ _ (kb10 _ _ (s9 _ _ (s8 _ _ (kb7 _ _ (k6 _ _ e n1 n2) n1))) n1) n1)
        · intro Q' q'
          refine ⟨_, rfl, rfl, _, rfl, ?_⟩
          cases e : decide (V.int (0 + (j : Int)) = V.int 0) with
          | false => exact ite_f rfl (q' _ _ ⟨rfl, fun _ _ z _ => z, st10.spr⟩)
          | true =>
            refine ite_t rfl ⟨_, rfl, _, rfl, _, rfl, _, rfl, _, rfl, Ct, o, d, c, p, t, v, RKt, rfl, st10.spr, hp, ru10.ru, hv10, ht, fun H11 kb11 hs11 => ⟨true, rfl, q' _ _ ⟨rfl, kb11, hs11⟩⟩⟩
      · rintro σ H6 ⟨o5, o6, o7, acc, rfl, st6, hal6, k6⟩
        refine ⟨_, rfl, .inl ⟨rfl, _, SqL.of st6.at_⟩, _, rfl, _, rfl, fun o dx hx2 hdx2 hne => mkR_read (X := X) RKr.rc hp st6.at_ hx2 hdx2 hne ?_⟩
        rintro H7 s7 ru7
        have st7 := kst_same st6 s7
        refine ⟨_, rfl, _, rfl, _, rfl, _, rfl, RgOk.of_le (by decide) (by omega) (by decide) (by omega), fun q oo hq2 hd => ⟨by show 4 ≤ sizeLine; decide, fun tp htp => ?_⟩⟩
        have s8 := same_upd (o := .frz oo (.tup (rgV 0 (p.1 : Int)))) hq2
        have or8 := ord_rg (H := H7) (q := q) (n := p.1) hd
        have s9 := same_upd (o := .tup [.ref o, .int (p.1 : Int), .int (p.2 : Int), .ref q]) htp
        have s89 := s8.trans s9
        have ru9 := rux_same ru7 s89
        have or9 := tupI_same (K := K) (ordT_tup or8) s9
        have st9 := kst_same st7 s89
        have e9 := upd_same (H := upd H7 q (.frz oo (.tup (rgV 0 (p.1 : Int))))) (a := tp) (o := .tup [.ref o, .int (p.1 : Int), .int (p.2 : Int), .ref q])
        generalize upd (upd H7 q (.frz oo (.tup (rgV 0 (p.1 : Int))))) tp (.tup [.ref o, .int (p.1 : Int), .int (p.2 : Int), .ref q]) = H9 at *
        have st10 := kst_push st9 nd nc e9 (.inl rfl) hp id2 ru9 or9
        refine ⟨X, acc, .ref tp, rfl, rfl, st9.at_, by rw [sizeLine_eq]; omega, ?_⟩
        have k10 : ∀ b u, H4 b = some u → b ≠ d → b ≠ X → upd H9 X (.lst (acc ++ [.ref tp])) b = some u := fun b u e n1 n2 => by
          rw [upd_ne n2]
          exact s89 _ _ (s7 _ _ (k6 _ _ e n1 n2))
        have hal10 : (acc ++ [V.ref tp]).length ≤ 4 * i + 3 := by rw [List.length_append]; show acc.length + 1 ≤ _; omega
        generalize acc ++ [V.ref tp] = acc2 at *
        generalize upd H9 X (.lst acc2) = H10 at *
        refine ⟨_, rfl, .inl ⟨rfl, _, SqL.of st10.at_⟩, _, rfl, _, rfl, _, rfl, _, rfl, RgOk.of_le (by decide) (by omega) (by decide) (by omega), fun q1 o1 hq1 hd1 => ⟨q1, _, rfl, .inl (.inr ⟨o1, upd_same⟩), by rw [rgV_length]; omega, fun q2 o2 hq2 hd2 => fun x2 dx2 hx2 hdx2 hne2 =>
          mkT_read (Ct := Ct) (X := X) hp (ord_rev hd2) id3 (kst_same st10 ((same_upd hq1).trans (same_upd hq2))).at_ hx2 hdx2 hne2 ?_⟩⟩
        rintro H13 s13 ru13 _
        have st13 := kst_same st10 (((same_upd hq1).trans (same_upd hq2)).trans s13)
        have k13 : Same H10 H13 := ((same_upd hq1).trans (same_upd hq2)).trans s13
        refine ⟨_, rfl, _, rfl, _, rfl, _, rfl, RgOk.of_le (by decide) (by omega) (by decide) (by omega), fun q3 o3 hq3 hd3 => ⟨q3, _, rfl, .inl (.inr ⟨o3, upd_same⟩), by rw [rgV_length]; omega, fun q4 o4 hq4 hd4 => ⟨by show 4 ≤ sizeLine; decide, fun tp2 htp2 => ?_⟩⟩⟩
        have sA := same_upd (o := .frz o3 (.tup (rgV 0 (p.1 : Int)))) hq3
        have sB := same_upd (o := .frz o4 (.tup (rgV 0 (p.1 : Int)).reverse)) hq4
        have sC := same_upd (o := .tup [.ref x2, .int (p.1 : Int), .int (p.2 : Int), .ref q4]) htp2
        have st14 := kst_same st13 ((sA.trans sB).trans sC)
        refine ⟨X, acc2, .ref tp2, rfl, rfl, st14.at_, by rw [sizeLine_eq]; omega, _, _, _, _, _, acc2 ++ [.ref tp2], rfl, kst_push st14 nd nc upd_same (.inr rfl) hp id3 (rux_same ru13 ((sA.trans sB).trans sC)) (tupI_same (ordT_tup (ord_rev hd4)) sC), by rw [List.length_append]; show acc2.length + 1 ≤ _; omega, fun b u e n1 n2 => ?_⟩
        rw [upd_ne n2]
        exact ((sA.trans sB).trans sC) _ _ (k13 _ _ (k10 _ _ e n1 n2))
    · rintro σ H' ⟨o3, o4, o5, o6, o7, acc, rfl, st5, hal, _⟩
      rw [pvs.length] at hal
      exact hNX _ _ ⟨o3, o4, o5, o6, o7, acc, rfl, st5, hal⟩
end
end RM
namespace RM
open PySem PySem.Spec PyProof.Rows L2
/-! ### what the head looks at -/
def pgA (K : PySem.W.Frag) (C : Addr) (f : Str) : Addr := match PySem.W.recIn K (He.ma K C f) "property" with
  | some (.ref g :: _) => g
  | _ => 0
structure DfA where
  adr : PySem.W.Frag → Addr
  name : Str
  qual : Str
  st : Stmt
  dfl : List V := []
  cl : List Str := []
abbrev FnV : Type := Option (Str × Str × Arguments × FuncBody × Scope × Addr × List Str × Addr)
def fnV (K : PySem.W.Frag) (a : Addr) : FnV := match K.lookup a with
  | some ⟨_, _, .func fd, _⟩ => some (fd.name, fd.qualname, fd.params, fd.body, fd.scope, fd.globals, fd.closure.map (·.1), fd.builtins)
  | _ => none
def DfA.val (d : DfA) : FnV := some (d.name, d.qual, defArgs d.st, .stmts (defBody d.st), defScope d.st, mainGlobals, d.cl, builtinsNs)
def DfA.ok (K : PySem.W.Frag) (d : DfA) : Bool := PySem.W.keepIn K (.ref (d.adr K)) && (match K.lookup (d.adr K) with
  | some ⟨_, _, .func fd, _⟩ => PySem.W.codeIn K fd.code d.qual && He.dflB K fd.defaults d.dfl
  | _ => false)
theorem DfA.any {K : PySem.W.Frag} {d : DfA} (e : fnV K (d.adr K) = d.val) (c : d.ok K = true) : ∃ (oc : Value) (od : Option Addr) (dV kV doc pm : Value) (an : Option Addr) (cdv ct : Value) (osl : Array (Option Value)) (cl : List (Str × Addr)),
    K.lookup (d.adr K) = some ⟨oc, od, .func (PySem.W.fnX d.name d.qual (defArgs d.st) (defBody d.st) (defScope d.st) cl dV kV doc pm an cdv ct), osl⟩ ∧ cl.map (·.1) = d.cl ∧ PySem.W.codeIn K cdv d.qual = true ∧ DflV K dV d.dfl ∧ PySem.W.keepIn K (.ref (d.adr K)) = true := by
  obtain ⟨kp, c2⟩ := He.ba c
  unfold fnV at e
  cases q : K.lookup (d.adr K) with
  | none =>
    rw [q] at c2
    cases c2
  | some o =>
    obtain ⟨oc, od, dt, osl⟩ := o
    rw [q] at c2 e
    cases dt with
    | func fd =>
      obtain ⟨n1, n2, n3, n4, n5, n6, n7, n8, n9, n10, n11, n12, n13, n14, n15⟩ := fd
      have e2 : (some (n1, n2, n3, n4, n5, n6, n7.map (·.1), n15) : FnV) = some (d.name, d.qual, defArgs d.st, .stmts (defBody d.st), defScope d.st, mainGlobals, d.cl, builtinsNs) := e
      simp only [Option.some.injEq, Prod.mk.injEq] at e2
      obtain ⟨h1, h2, h3, h4, h5, h6, h7, h8⟩ := e2
      subst h1 h2 h3 h4 h5 h6 h8
      obtain ⟨k1, k3⟩ := He.ba (show (PySem.W.codeIn K n13 d.qual && He.dflB K n8 d.dfl) = true from c2)
      exact ⟨oc, od, n8, n9, n10, n11, n12, n13, n14, osl, n7, rfl, h7, k1, He.dflB_ok k3, kp⟩
    | _ => cases c2
theorem DfA.funD {K : PySem.W.Frag} {d : DfA} (e : fnV K (d.adr K) = d.val) (c : d.ok K = true) (h : d.cl = []) : ∃ fd, FunD K d.name d.qual (defArgs d.st) (defBody d.st) (defScope d.st) d.dfl [] (d.adr K) fd := by
  obtain ⟨oc, od, dV, kV, doc, pm, an, cdv, ct, osl, cl, lk, h1, h2, h3, h4⟩ := DfA.any e c
  rw [h, List.map_eq_nil_iff] at h1
  subst h1
  exact ⟨_, ⟨oc, od, dV, kV, doc, pm, an, cdv, ct, osl, rfl, lk, h2, h3, .inl rfl⟩, h4⟩
/-! ### written tuples -/
def seqT (K : PySem.W.Frag) (a : Addr) : List Value := match K.lookup a with
  | some ⟨.type c, _, .seq its _, _⟩ => if (decide (c = "tuple") && decide (its.size ≤ sizeLine)) = true then its.toList else []
  | _ => []
theorem seqT_ok {K : PySem.W.Frag} {a : Addr} {vs : List V} (hne : vs ≠ []) (h : Vals vs (seqT K a)) (H : Hp) : SqT K H a vs := by
  unfold seqT at h
  have no : ¬ Vals vs [] := by
    intro z
    cases z
    exact hne rfl
  cases q : K.lookup a with
  | none =>
    rw [q] at h
    exact (no h).elim
  | some o =>
    obtain ⟨oc, od, dt, osl⟩ := o
    rw [q] at h
    cases oc with
    | type c =>
      cases dt with
      | seq its n =>
        by_cases hc : (decide (c = "tuple") && decide (its.size ≤ sizeLine)) = true
        · have h' : Vals vs (if (decide (c = "tuple") && decide (its.size ≤ sizeLine)) = true then its.toList else []) := h
          rw [if_pos hc] at h'
          obtain ⟨h1, h2⟩ := He.ba hc
          exact .inr ⟨_, its, n, q, congrArg Value.type (of_decide_eq_true h1), rfl, of_decide_eq_true h2, h'⟩
        · have h' : Vals vs (if (decide (c = "tuple") && decide (its.size ≤ sizeLine)) = true then its.toList else []) := h
          rw [if_neg hc] at h'
          exact (no h').elim
      | _ => exact (no h).elim
    | _ => cases dt <;> exact (no h).elim
def refA : Value → Addr
  | .ref a => a
  | _ => 0
def isRef : Value → Bool
  | .ref _ => true
  | _ => false
theorem isRef_ok {u : Value} (h : isRef u = true) : u = .ref (refA u) := by
  cases u <;> first | rfl | cases h
def rayB (K : PySem.W.Frag) (u : Value) (ns : List Int) : Bool := isRef u && (!ns.isEmpty && He.relAll (ns.map V.int) (seqT K (refA u)))
theorem rayB_ok {K : PySem.W.Frag} {u : Value} {ns : List Int} (h : rayB K u ns = true) : RelV (.ref (refA u)) u ∧ ∀ H, TupI K H (.ref (refA u)) ns := by
  obtain ⟨h1, h⟩ := He.ba h
  obtain ⟨h2, h3⟩ := He.ba h
  have e := isRef_ok h1
  refine ⟨by rw [e]; rfl, fun H => ⟨_, rfl, seqT_ok (fun z => ?_) (He.relAll_ok h3) H⟩⟩
  rw [List.map_eq_nil_iff.mp z] at h2
  cases h2
def allB {α : Type} (f : Value → α → Bool) : List Value → List α → Bool
  | [], [] => true
  | u :: us, b :: bs => f u b && allB f us bs
  | _, _ => false
theorem allB_ok {α : Type} {f : Value → α → Bool} {R : V → α → Prop} (h : ∀ u b, f u b = true → RelV (.ref (refA u)) u ∧ R (.ref (refA u)) b) : ∀ {us : List Value} {bs : List α}, allB f us bs = true → ∃ vs, Vals vs us ∧ Paired R vs bs
  | [], [], _ => ⟨[], .nil, .nil⟩
  | [], _ :: _, q => nomatch q
  | _ :: _, [], q => nomatch q
  | u :: us, b :: bs, q => by
    obtain ⟨q1, q2⟩ := He.ba (show (f u b && allB f us bs) = true from q)
    obtain ⟨vs, g1, g2⟩ := allB_ok h q2
    obtain ⟨h1, h2⟩ := h u b q1
    exact ⟨_, .cons h1 g1, .cons h2 g2⟩
def restB (K : PySem.W.Frag) (u : Value) (p : Nat × Nat) : Bool := isRef u && (!(tab p.1 p.2).isEmpty && allB (rayB K) (seqT K (refA u)) (tab p.1 p.2))
theorem pr_ne {α β : Type} {R : α → β → Prop} {xs : List α} {ys : List β} (h : Paired R xs ys) (n : ys.isEmpty = false) : xs ≠ [] := by
  rintro rfl
  cases h
  cases n
theorem restB_ok {K : PySem.W.Frag} {u : Value} {p : Nat × Nat} (h : restB K u p = true) : RelV (.ref (refA u)) u ∧ RestP K (refA u) p := by
  obtain ⟨h1, h⟩ := He.ba h
  obtain ⟨h2, h3⟩ := He.ba h
  obtain ⟨vs, g1, g2⟩ := allB_ok (R := fun v r => ∀ H, TupI K H v r) (fun u b q => rayB_ok q) h3
  refine ⟨by rw [isRef_ok h1]; rfl, vs, fun H => seqT_ok (pr_ne g2 (by simpa using h2)) g1 H, fun H => pr_ext g2 fun _ _ _ z => z H⟩
def rowB (K : PySem.W.Frag) (u : Value) (p : Nat × Nat) : Bool := isRef u && (match seqT K (refA u) with
  | [u1, u2, u3] => He.relB (.int (p.1 : Int)) u1 && (He.relB (.int (p.2 : Int)) u2 && restB K u3 p)
  | _ => false)
theorem rowB_ok {K : PySem.W.Frag} {u : Value} {p : Nat × Nat} (h : rowB K u p = true) : RelV (.ref (refA u)) u ∧ RowP K (.ref (refA u)) p := by
  obtain ⟨h1, h⟩ := He.ba h
  refine ⟨by rw [isRef_ok h1]; rfl, ?_⟩
  generalize e : seqT K (refA u) = L at h
  match L, h with
  | [u1, u2, u3], h =>
    obtain ⟨k1, k⟩ := He.ba (show (He.relB (.int (p.1 : Int)) u1 && (He.relB (.int (p.2 : Int)) u2 && restB K u3 p)) = true from h)
    obtain ⟨k2, k3⟩ := He.ba k
    obtain ⟨k4, k5⟩ := restB_ok k3
    exact ⟨refA u, refA u3, rfl, fun H => seqT_ok (List.cons_ne_nil _ _) (by rw [e]; exact .cons (He.relB_ok k1) (.cons (He.relB_ok k2) (.cons k4 .nil))) H, k5⟩
  | [], h => cases h
  | [_], h => cases h
  | [_, _], h => cases h
  | _ :: _ :: _ :: _ :: _, h => cases h
def rulesB (K : PySem.W.Frag) : Bool := allB (rowB K) (seqT K (He.ga K "RULES")) rules && (He.relAll (([1, 2, 3, 6, 9, 11] : List Int).map V.int) (seqT K (He.ga K "FOURTH_RESTS")) && ((He.Fa.glo "RULES").ok K && (He.Fa.glo "FOURTH_RESTS").ok K))
theorem rulesB_ok {K : PySem.W.Frag} {h : Heap} {mg : Str → Option Value} (X : K.In h) (G : h.Ns mainGlobals mg) (c : rulesB K = true) : RulesK K mg := by
  obtain ⟨c1, c⟩ := He.ba c
  obtain ⟨c2, c⟩ := He.ba c
  obtain ⟨c3, c4⟩ := He.ba c
  obtain ⟨vs, g1, g2⟩ := allB_ok (R := RowP K) (fun u b q => rowB_ok q) c1
  exact ⟨⟨_, vs, He.glo_ok X G c3, fun H => seqT_ok (pr_ne g2 rfl) g1 H, g2⟩, ⟨_, He.glo_ok X G c4, fun H => seqT_ok (List.cons_ne_nil _ _) (He.relAll_ok c2) H⟩⟩
end RM
/-! Rightmarks k40: the law's call at the claim's caller, for a promise that holds under plain guards. -/
namespace RM
open PySem PySem.Spec PyProof.Rows L2
section
variable {P : Program} {w : World} {K : PySem.W.Frag} {mg mb : Str → Option Value} {k : Nat} {fa a : Addr} {nm x : Str} {sp : Sp} {s₁ : Shared} {vs : List Value} {ns : List Int}
/-- from a heap in which the script alone is told -/
theorem law_from (H : Hp) (KX : K.In s₁.heap) (hns : s₁.heap.Ns mainGlobals mg) (hb : s₁.heap.Ns builtinsNs mb) (hbb : ∀ x : Str, x ≠ "__name__" → mb x = bootBuiltins x) (hlim : s₁.heap.NoLimit) (hg : s₁.gens = #[])
    (hA : ∀ b u, H b = some u → b = a ∧ ∃ o ys, u = .frz o (.lst ys) ∧ o.data = .seq vs.toArray) (hget : ∀ o, s₁.heap.get? a = some o → ∀ es ep, o.data ≠ .dict es ep) (hK : H a ≠ none → K.lookup a = none) (hok : HOk P w H s₁.heap) (hr : Room k callerA)
    (F : ∀ base : Heap, K.In base → base.Ns mainGlobals mg → CalG P w K mg base nm k [x] sp) (hbind : mg nm = some (.ref fa)) (hsp : sp [.ref a] H (fun v _ => v = .bl true) E0) :
    codeAny (model P w) callerA (.call (.ref fa) ⟨[.ref a], []⟩) (fun r s' => r = .ok (.ret (.bool true)) ∧ OldK s₁.heap s'.heap ∧ s'.os = s₁.os ∧ AllBare s'.gens) s₁ := by
  have free : ∀ {b : Addr}, b ≠ a → H b = none := fun {b} n => by
    cases q : H b with
    | none => rfl
    | some u => exact absurd (hA b u q).1 n
  have stays : ∀ {b : Addr} {m : Str → Option Value}, s₁.heap.Ns b m → (hidT s₁.heap H).Ns b m := by
    rintro b m ⟨o, es, ep, e, dd, rest⟩
    refine ⟨o, es, ep, hidT_get e (free fun z => ?_), dd, rest⟩
    rw [z] at e
    exact hget o e es ep dd
  have inK : K.In (hidT s₁.heap H) := by
    intro b o e
    refine hidT_get (KX b o e) ?_
    cases q : H b with
    | none => rfl
    | some u =>
      have z := (hA b u q).1
      rw [z] at q e
      have := hK (by rw [q]; exact fun y => nomatch y)
      rw [this] at e
      cases e
  have hM : Mod K mg (hidT s₁.heap H) := by
    obtain ⟨mc, l1, l2⟩ := hlim
    exact ⟨inK, stays hns, ⟨mb, stays hb, hbb⟩, mc, stays l1, l2⟩
  have start0 : Env0 P w K mg (hidT s₁.heap H) callerA [] s₁ H :=
    ⟨rfl, hM, fun b o e => of_hidT e, Nat.le_of_eq (hidT_size _ _), trivial, fun b z => absurd (show b ∈ ([] : List Addr) from z) (by simp), hok, .of_eq hg⟩
  obtain ⟨f2, fd, FG, bG, _, hf2⟩ := (F _ inK (stays hns)).ex
  obtain rfl : f2 = fa := by
    have e := hf2.symm.trans hbind
    cases e
    rfl
  have done := FG.run callerA rfl [] s₁ H ⟨[.ref a], []⟩ [.ref a] [.ref a] _ hr start0 (bG s₁ [.ref a] KX rfl) (.cons rfl .nil) hsp
  refine codeAny_mono done fun r s' h => ?_
  cases r with
  | error e => exact h.elim
  | ok fl => cases fl with
    | ret u =>
      obtain ⟨v, H', os, bare, un, hok', rv, q⟩ := h
      have e1 : v = .bl true := q
      subst e1
      have e2 : u = Value.bool true := rv
      subst e2
      refine ⟨rfl, OldK.of_keep fun b o e => ?_, os, bare⟩
      cases q : H b with
      | none => exact un.keep b o e q (fun z => absurd (show b ∈ ([] : List Addr) from z) (by simp)) (by simp)
      | some t =>
        obtain ⟨_, ob, ys, rfl, _⟩ := hA b t q
        have z1 := (hok b _ q).1
        have z2 := (hok' b _ (un.frzs b ob _ q)).1
        have e3 : o = ob := Option.some.inj (e.symm.trans z1)
        rw [e3]
        exact z2
    | next => exact h.elim
    | brk => exact h.elim
    | cont => exact h.elim
theorem law_end (KX : K.In s₁.heap) (hns : s₁.heap.Ns mainGlobals mg) (hb : s₁.heap.Ns builtinsNs mb) (hbb : ∀ x : Str, x ≠ "__name__" → mb x = bootBuiltins x) (hlim : s₁.heap.NoLimit) (hg : s₁.gens = #[])
    (ha : s₁.heap.get? a = some { cls := .type "list", data := .seq vs.toArray }) (hi : IntsAre vs ns) (hl : ns.length ≤ sizeLine) (hr : Room k callerA)
    (F : ∀ base : Heap, K.In base → base.Ns mainGlobals mg → CalG P w K mg base nm k [x] sp) (hbind : mg nm = some (.ref fa))
    (hsp : ∀ H : Hp, SqL K H a (ns.map V.int) → sp [.ref a] H (fun v _ => v = .bl true) E0) :
    codeAny (model P w) callerA (.call (.ref fa) ⟨[.ref a], []⟩) (fun r s' => r = .ok (.ret (.bool true)) ∧ OldK s₁.heap s'.heap ∧ s'.os = s₁.os ∧ AllBare s'.gens) s₁ := by
  have rv := vals_ints hi
  have sz : (ns.map V.int).length ≤ sizeLine := by rw [List.length_map]; exact hl
  have hget : ∀ o, s₁.heap.get? a = some o → ∀ es ep, o.data ≠ .dict es ep := by
    intro o e es ep z
    rw [ha] at e
    cases e
    cases z
  cases hk : K.lookup a with
  | some o =>
    have e := (KX a o hk).symm.trans ha
    have e2 : o = _ := Option.some.inj e
    subst e2
    refine law_from (vs := vs) (fun _ => none) KX hns hb hbb hlim hg (fun b u z => nomatch (show (none : Option HO) = some u from z)) hget (fun z => absurd rfl z) (fun b u z => nomatch (show (none : Option HO) = some u from z)) hr F hbind (hsp _ (.inr ⟨_, vs.toArray, _, hk, rfl, rfl, rfl, ?_, ?_⟩))
    · rw [List.size_toArray, hi.length]; exact hl
    · simpa using rv
  | none =>
    have one : ∀ b u, (if b = a then some (HO.frz { cls := .type "list", data := .seq vs.toArray } (.lst (ns.map V.int))) else none) = some u → b = a ∧ u = .frz { cls := .type "list", data := .seq vs.toArray } (.lst (ns.map V.int)) := by
      intro b u z
      by_cases hb : b = a
      · rw [if_pos hb] at z
        cases z
        exact ⟨hb, rfl⟩
      · rw [if_neg hb] at z
        cases z
    refine law_from (vs := vs) (fun b => if b = a then some (HO.frz { cls := .type "list", data := .seq vs.toArray } (.lst (ns.map V.int))) else none) KX hns hb hbb hlim hg (fun b u z => ?_) hget (fun _ => hk) (fun b u z => ?_) hr F hbind (hsp _ (.inl (.inr ⟨{ cls := .type "list", data := .seq vs.toArray }, if_pos rfl⟩)))
    · obtain ⟨e1, e2⟩ := one b u z
      exact ⟨e1, _, _, e2, rfl⟩
    · obtain ⟨e1, e2⟩ := one b u z
      subst e1 e2
      exact ⟨ha, sz, vs, _, rv, ha⟩
end
end RM
namespace RM
open PySem PySem.Spec PyProof.Rows L2
abbrev lw : PySem.W.OpenLaw := PySem.Challenge.rw_rightmarks_k40_whole_turned_rules
abbrev R : PySem.W.OpenRow := PySem.W.OpenLaw.row lw
/-! ### checks -/
abbrev aR (K : PySem.W.Frag) : Addr := He.ga K "Rule"
abbrev aT (K : PySem.W.Frag) : Addr := He.ga K "TurnedRule"
abbrev aM (K : PySem.W.Frag) (m : Str) : Addr := He.ma K (aR K) m
abbrev aI (K : PySem.W.Frag) : Addr := He.ma K (aT K) "__init__"
def aCC (K : PySem.W.Frag) : Addr := match K.lookup (aI K) with
  | some ⟨_, _, .func fd, _⟩ => (match fd.closure with
    | [(_, c)] => c
    | _ => 0)
  | _ => 0
def aCD (K : PySem.W.Frag) : Addr := match K.lookup (aI K) with
  | some ⟨_, _, .func fd, _⟩ => refA fd.code
  | _ => 0
def rclsB (K : PySem.W.Frag) (x : Str) : Bool := (He.Fa.cls x).ok K && ((He.Fa.noat x "held_size").ok K && ((He.Fa.noat x "held_modulus").ok K && ((He.Fa.noat x "held_rests").ok K && ((He.Fa.noat x "held_order").ok K && (He.eqO (PySem.W.findIn K (.ref (He.ga K x)) "__class__") (some (some (.builtin "object.__class__"))) &&
  (decide (PySem.W.mroIn K (He.ga K x) (.type "object") = some true) && decide (PySem.W.kitOne K (.ref (He.ga K x)) (.ref (aR K)) = some true)))))))
theorem rclsB_ok {K : PySem.W.Frag} {x : Str} (c : rclsB K x = true) : RCls K (aR K) (He.ga K x) := by
  obtain ⟨c1, c⟩ := He.ba c
  obtain ⟨c2, c⟩ := He.ba c
  obtain ⟨c3, c⟩ := He.ba c
  obtain ⟨c4, c⟩ := He.ba c
  obtain ⟨c5, c⟩ := He.ba c
  obtain ⟨c6, c⟩ := He.ba c
  obtain ⟨c7, c8⟩ := He.ba c
  exact ⟨He.cls_ok c1, He.noat_ok c2, He.noat_ok c3, He.noat_ok c4, He.noat_ok c5, He.eqO_ok c6, of_decide_eq_true c7, of_decide_eq_true c8⟩
def kclsB (K : PySem.W.Frag) : Bool := He.eqO (PySem.W.specialIn K (.builtin "object.__class__") "__get__") (some (some (.builtin "getset_descriptor.__get__"))) && decide (PySem.W.takesIn K (.builtin "object.__class__") = some true)
theorem kclsB_ok {K : PySem.W.Frag} (c : kclsB K = true) : KCls K := ⟨He.eqO_ok (He.ba c).1, of_decide_eq_true (He.ba c).2⟩
/-- a method, found at the class -/
def atB (K : PySem.W.Frag) (x m : Str) (f : Addr) : Bool := He.eqO (PySem.W.findIn K (.ref (He.ga K x)) m) (some (some (.ref f))) && (PySem.W.isFn K (.ref f) && (PySem.W.keepIn K (.ref f) && PySem.W.fnIn K f))
theorem atB_ok {K : PySem.W.Frag} {x m : Str} {f : Addr} (c : atB K x m f = true) : PySem.W.findIn K (.ref (He.ga K x)) m = some (some (.ref f)) ∧ PySem.W.isFn K (.ref f) = true ∧ PySem.W.keepIn K (.ref f) = true ∧ PySem.W.fnIn K f = true := by
  obtain ⟨c1, c⟩ := He.ba c
  obtain ⟨c2, c⟩ := He.ba c
  exact ⟨He.eqO_ok c1, c2, (He.ba c).1, (He.ba c).2⟩
def recB (K : PySem.W.Frag) (p g : Addr) : Bool := match PySem.W.recIn K p "property" with
  | some (.ref b :: _) => decide (b = g)
  | _ => false
theorem recB_ok {K : PySem.W.Frag} {p g : Addr} (c : recB K p g = true) : ∃ rest, PySem.W.recIn K p "property" = some (.ref g :: rest) := by
  unfold recB at c
  split at c
  · rename_i b rest e
    rw [of_decide_eq_true c] at e
    exact ⟨rest, e⟩
  · cases c
def propB (K : PySem.W.Frag) (x m : Str) (p g : Addr) : Bool := He.eqO (PySem.W.findIn K (.ref (He.ga K x)) m) (some (some (.ref p))) && (He.eqO (PySem.W.specialIn K (.ref p) "__get__") (some (some (.builtin "property.__get__"))) && (decide (PySem.W.takesIn K (.ref p) = some true) && recB K p g))
theorem propB_ok {K : PySem.W.Frag} {x m : Str} {p g : Addr} (c : propB K x m p g = true) : PropOf K (He.ga K x) m p g := by
  obtain ⟨c1, c⟩ := He.ba c
  obtain ⟨c2, c⟩ := He.ba c
  obtain ⟨c3, c4⟩ := He.ba c
  exact ⟨He.eqO_ok c1, He.eqO_ok c2, of_decide_eq_true c3, recB_ok c4⟩
def mkB (K : PySem.W.Frag) (x : Str) (f : Addr) : Bool := PySem.W.makesIn K (He.ga K x) && (He.eqO (PySem.W.findIn K (.ref (He.ga K x)) "__init__") (some (some (.ref f))) && (PySem.W.isFn K (.ref f) && PySem.W.keepIn K (.ref (He.ga K x))))
theorem mkB_ok {K : PySem.W.Frag} {x : Str} {f : Addr} (c : mkB K x f = true) : L2.Mk K (He.ga K x) f := by
  obtain ⟨c1, c⟩ := He.ba c
  obtain ⟨c2, c⟩ := He.ba c
  obtain ⟨c3, c4⟩ := He.ba c
  exact ⟨c1, He.eqO_ok c2, c3, c4⟩
def eqB (K : PySem.W.Frag) (x : Str) (f : Addr) : Bool := He.eqO (PySem.W.findIn K (.ref (He.ga K x)) "__eq__") (some (some (.ref f))) && (PySem.W.isFn K (.ref f) && (He.eqO (PySem.W.findIn K (.ref (He.ga K x)) "__ne__") (some (some (.builtin "object.__ne__"))) && decide (PySem.W.mroIn K (He.ga K x) (.type "object") = some true)))
theorem eqB_ok {K : PySem.W.Frag} {x : Str} {f : Addr} (c : eqB K x f = true) : EqOf K (He.ga K x) f := by
  obtain ⟨c1, c⟩ := He.ba c
  obtain ⟨c2, c⟩ := He.ba c
  obtain ⟨c3, c4⟩ := He.ba c
  exact ⟨He.eqO_ok c1, c2, He.eqO_ok c3, of_decide_eq_true c4⟩
def oddN : List String := ["NoneType", "int", "tuple", "str", "list"]
def eqkB (K : PySem.W.Frag) : Bool := PySem.W.notFirst K (aR K) (.ref (aR K)) && (PySem.W.notFirst K (aT K) (.ref (aT K)) && (PySem.W.notFirst K (aT K) (.ref (aR K)) && (!decide (aR K = aT K) && (decide (PySem.W.subIn K (.ref (aT K)) (.ref (aR K)) = some true) &&
  ((oddN.all fun n => PySem.W.notFirst K (aR K) (.type n)) && ((oddN.all fun n => PySem.W.notFirst K (aT K) (.type n)) && (oddN.all fun n => decide (PySem.W.kitOne K (.type n) (.ref (aR K)) = some false))))))))
theorem eqkB_ok {K : PySem.W.Frag} (c : eqkB K = true) (e1 : EqOf K (aR K) (aM K "__eq__")) (e2 : EqOf K (aT K) (aM K "__eq__")) : EqK K (aR K) (aT K) (aM K "__eq__") := by
  obtain ⟨c1, c⟩ := He.ba c
  obtain ⟨c2, c⟩ := He.ba c
  obtain ⟨c3, c⟩ := He.ba c
  obtain ⟨c4, c⟩ := He.ba c
  obtain ⟨c5, c⟩ := He.ba c
  obtain ⟨c6, c⟩ := He.ba c
  obtain ⟨c7, c8⟩ := He.ba c
  exact ⟨e1, e2, c1, c2, c3, by simpa using c4, of_decide_eq_true c5, List.all_eq_true.mp c6, List.all_eq_true.mp c7, fun n hn => of_decide_eq_true (List.all_eq_true.mp c8 n hn)⟩
def codeB (K : PySem.W.Frag) (cda : Addr) : Bool := match K.lookup cda with
  | some ⟨_, _, .fields vs, _⟩ => (match (vs[2]? : Option Value) with
    | some (Value.str file _) => ((lw.prog.main.file : Str) == file)
    | _ => false)
  | _ => false
theorem codeB_ok {K : PySem.W.Frag} {cda : Addr} (c : codeB K cda = true) : ∃ ccl cdd vs ccs file tf, K.lookup cda = some ⟨ccl, cdd, .fields vs, ccs⟩ ∧ vs[2]? = some (.str file tf) ∧ ((lw.prog.main.file : Str) == file) = true := by
  unfold codeB at c
  split at c
  · rename_i ccl cdd vs ccs e
    split at c
    · rename_i file tf e2
      exact ⟨ccl, cdd, vs, ccs, file, tf, e, e2, c⟩
    · cases c
  · cases c
def cellB (K : PySem.W.Frag) (cc Ct : Addr) : Bool := match K.lookup cc with
  | some ⟨_, _, .cell (some (.ref c)), _⟩ => decide (c = Ct)
  | _ => false
theorem cellB_ok {K : PySem.W.Frag} {cc Ct : Addr} (c : cellB K cc Ct = true) : ∃ cl cld csl, K.lookup cc = some ⟨cl, cld, .cell (some (.ref Ct)), csl⟩ := by
  unfold cellB at c
  split at c
  · rename_i cl cld d csl e
    rw [of_decide_eq_true c] at e
    exact ⟨cl, cld, csl, e⟩
  · cases c
def supB1 (K : PySem.W.Frag) : Bool := codeB K (aCD K) && cellB K (aCC K) (aT K)
def supB2 (K : PySem.W.Frag) : Bool := (PySem.W.clsIn K (aT K)).isSome && (decide (PySem.W.mroIn K (aT K) (.ref (aT K)) = some true) && He.eqO (PySem.W.ks_superIn K (aT K) (aT K) "__init__") (some (some (.ref (aM K "__init__")))))
def supB3 (K : PySem.W.Frag) : Bool := He.eqO (PySem.W.nsIn K cStatics "thirdparty.any") (some none)
def supB4 (K : PySem.W.Frag) : Bool := decide (PySem.W.typeIn K (.ref (aM K "__init__")) = some (.type "function")) && PySem.W.fnIn K (aM K "__init__")
theorem sup_ok {K : PySem.W.Frag} (a : supB1 K = true) (b : supB2 K = true) (c : supB3 K = true) (d : supB4 K = true) (t : (lw.prog.main.scope.names.lookup ("super" : Str)).isSome = false) : SupK lw.prog K (aCC K) (aCD K) (aT K) (aM K "__init__") := by
  obtain ⟨b1, b⟩ := He.ba b
  obtain ⟨b2, b3⟩ := He.ba b
  exact ⟨codeB_ok (He.ba a).1, cellB_ok (He.ba a).2, Option.isSome_iff_exists.mp b1, of_decide_eq_true b2, He.eqO_ok c, t, He.eqO_ok b3, of_decide_eq_true (He.ba d).1, (He.ba d).2⟩
/-! ### the facts -/
def gG (i : Nat) (x : Str) : DfA := { adr := fun K => He.ga K x, name := x, qual := x, st := top i }
def gM (j : Nat) (x q : Str) : DfA := { adr := fun K => aM K x, name := x, qual := q, st := mth 39 j }
def gPr (j : Nat) (x q : Str) : DfA := { adr := fun K => pgA K (aR K) x, name := x, qual := q, st := mth 39 j }
def fnT : List DfA := [gG 1 "divisor_of", gG 2 "common_divisor", gG 3 "dot_by", gG 5 "is_integer", gG 6 "are_integers", gG 7 "is_ray", gG 8 "is_ray_of", gG 12 "is_class_size", gG 13 "length_by", gG 28 "moduli_by", gG 29 "is_modulus", gG 30 "rests_by", gG 31 "rest_by", gG 32 "is_ruled_by", gG 34 "want_rule", gG 36 "is_order", gG 37 "rest_turned", gG 38 "is_meant", gG 42 "_law_spring", gG 43 "_law_dip", gG 44 "_law_pick", gG 45 "_law_same", gG 46 "_law_is_whole", gG 47 "_law_common", gG 48 "_law_common_of", gG 49 "_law_is_beam", gG 50 "_law_made", gG 51 "_law_dot", gG 52 "_law_rests", gG 53 "_law_list", gG 54 "_law_is_for", gG 55 "_law_sets", gG 56 "_law_all", gG 57 "_law_axes", gG 58 "_law_part", gG 59 "_law_moved", gG 60 "_law_turn_of", gG 61 "_law_marks_of", gG 62 "_law_is_told", gG 63 "_law_are_rays_right", gG 64 "_law_is_lot_right", gG 65 "law"]
def fnM : List DfA := [gM 0 "__init__" "Rule.__init__", gM 3 "taken" "Rule.taken", gM 4 "__call__" "Rule.__call__", gM 5 "__contains__" "Rule.__contains__", gM 6 "__len__" "Rule.__len__", gM 7 "__iter__" "Rule.__iter__", gM 8 "__eq__" "Rule.__eq__", gPr 1 "size_now" "Rule.size_now", gPr 2 "modulus_now" "Rule.modulus_now", { adr := fun K => pgA K (aT K) "order_now", name := "order_now", qual := "TurnedRule.order_now", st := mth 40 1 }, { adr := aI, name := "__init__", qual := "TurnedRule.__init__", st := mth 40 0, cl := ["__class__"] }, { adr := fun K => He.ga K "want", name := "want", qual := "want", st := top 19, dfl := [.int (-1)] }]
def freeN0 : List Str := ["isinstance", "int", "bool", "tuple", "all", "len", "abs", "sum"]
def freeN1 : List Str := ["zip", "list", "sorted", "set", "range", "iter", "repr", "super"]
def freeN : List Str := freeN0 ++ freeN1
def gloN0 : List Str := ["divisor_of", "common_divisor", "dot_by", "is_integer", "are_integers", "is_ray", "is_ray_of", "is_class_size", "length_by", "moduli_by"]
def gloN1 : List Str := ["is_modulus", "rests_by", "rest_by", "is_ruled_by", "want_rule", "is_order", "rest_turned", "is_meant", "_law_spring", "_law_dip"]
def gloN2 : List Str := ["_law_pick", "_law_same", "_law_is_whole", "_law_common", "_law_common_of", "_law_is_beam", "_law_made", "_law_dot", "_law_rests", "_law_list"]
def gloN3 : List Str := ["_law_is_for", "_law_sets", "_law_all", "_law_axes", "_law_part", "_law_moved", "_law_turn_of", "_law_marks_of", "_law_is_told", "_law_are_rays_right"]
def gloN4 : List Str := ["_law_is_lot_right", "law", "want", "Rule", "TurnedRule"]
def gloN : List Str := gloN0 ++ (gloN1 ++ (gloN2 ++ (gloN3 ++ (gloN4))))
def cks : List (PySem.W.Frag → Bool) := [fun K => freeN.all fun x => (He.Fa.free x).ok K,
  fun K => gloN.all fun x => (He.Fa.glo x).ok K,
  fun K => (He.Fa.int "LEAST_CLASS" 3).ok K && (He.Fa.int "MOST_CLASS" 5).ok K,
  rulesB,
  fun K => rclsB K "Rule",
  fun K => rclsB K "TurnedRule",
  kclsB,
  fun K => atB K "Rule" "taken" (aM K "taken"),
  fun K => atB K "Rule" "__call__" (aM K "__call__"),
  fun K => atB K "Rule" "__contains__" (aM K "__contains__"),
  fun K => atB K "Rule" "__len__" (aM K "__len__"),
  fun K => atB K "Rule" "__iter__" (aM K "__iter__"),
  fun K => propB K "Rule" "size_now" (He.ma K (aR K) "size_now") (pgA K (aR K) "size_now"),
  fun K => propB K "Rule" "modulus_now" (He.ma K (aR K) "modulus_now") (pgA K (aR K) "modulus_now"),
  fun K => atB K "TurnedRule" "taken" (aM K "taken"),
  fun K => atB K "TurnedRule" "__call__" (aM K "__call__"),
  fun K => atB K "TurnedRule" "__contains__" (aM K "__contains__"),
  fun K => atB K "TurnedRule" "__len__" (aM K "__len__"),
  fun K => atB K "TurnedRule" "__iter__" (aM K "__iter__"),
  fun K => propB K "TurnedRule" "size_now" (He.ma K (aR K) "size_now") (pgA K (aR K) "size_now"),
  fun K => propB K "TurnedRule" "modulus_now" (He.ma K (aR K) "modulus_now") (pgA K (aR K) "modulus_now"),
  fun K => propB K "TurnedRule" "order_now" (He.ma K (aT K) "order_now") (pgA K (aT K) "order_now"),
  fun K => mkB K "Rule" (aM K "__init__"),
  fun K => mkB K "TurnedRule" (aI K),
  fun K => eqB K "Rule" (aM K "__eq__"),
  fun K => eqB K "TurnedRule" (aM K "__eq__"),
  eqkB,
  supB1,
  supB2,
  supB3,
  supB4]
def fnA : List DfA := fnT ++ fnM
abbrev AlM : Type := List FnV × List Bool
def obsM (K : PySem.W.Frag) : AlM := (fnA.map fun d => fnV K (d.adr K), (fnA.map fun d => d.ok K) ++ cks.map fun c => c K)
def valM : AlM := (fnA.map DfA.val, (fnA.map fun _ => true) ++ cks.map fun _ => true)
def frM (g : Addr → Option Obj) : PySem.W.Frag := He.frG g (cStatics :: He.asD g 5)
def hk : PySem.W.Hook where
  α := AlM
  obs := fun s => obsM (frM s.heap.get?)
  val := fun _ => valM
  says := fun _ h => ∃ K : PySem.W.Frag, K.In h ∧ obsM K = valM
  of := fun _ _ e => ⟨_, He.frG_in, e⟩
  keeps := fun _ _ _ ⟨K, hK, c⟩ k => ⟨K, PySem.W.Frag.In.keeps hK k, c⟩
def ob (s : PySem.W.SharedT) : AlM := obsM (frM (HandSHeadRun.getT s))
theorem ob_eq (s : PySem.W.SharedT) : ob s = hk.obs s.abs := by
  have e : HandSHeadRun.getT s = s.abs.heap.get? := funext (HandSHeadRun.getT_eq s)
  show obsM (frM (HandSHeadRun.getT s)) = obsM (frM s.abs.heap.get?)
  rw [e]
def nm0 : List PySem.Str := ["divisor_of", "common_divisor", "dot_by", "is_integer", "are_integers", "is_ray", "is_ray_of", "LEAST_CLASS", "MOST_CLASS", "is_class_size", "length_by", "RayError"]
def nm1 : List PySem.Str := ["LotError", "NotUsable", "want", "ONES_3", "THIRDS_3", "FOURTHS_3", "ONES_4", "ONES_5", "RULES", "FOURTH_RESTS", "moduli_by", "is_modulus"]
def nm2 : List PySem.Str := ["rests_by", "rest_by", "is_ruled_by", "want_rule", "is_order", "rest_turned", "is_meant", "Rule", "TurnedRule", "_law_spring", "_law_dip", "_law_pick"]
def nm3 : List PySem.Str := ["_law_same", "_law_is_whole", "_law_common", "_law_common_of", "_law_is_beam", "_law_made", "_law_dot", "_law_rests", "_law_list", "_law_is_for", "_law_sets", "_law_all"]
def nm4 : List PySem.Str := ["_law_axes", "_law_part", "_law_moved", "_law_turn_of", "_law_marks_of", "_law_is_told", "_law_are_rays_right", "_law_is_lot_right"]
def lnames : List PySem.Str := nm0 ++ (nm1 ++ (nm2 ++ (nm3 ++ nm4)))
end RM
namespace RM
open PySem PySem.Spec PyProof.Rows L2
theorem run (w : World) : HandSHeadRun.RunEq R (PySem.W.view R.prog [65]) hk ob 6000 lnames w := by
  intro os
  kernel_rfl
end RM
namespace RM
open PySem PySem.Spec PyProof.Rows L2
section
variable {K : PySem.W.Frag}
theorem says_fn (c : obsM K = valM) (i : Nat) {d : DfA} (h : fnA[i]? = some d) : fnV K (d.adr K) = d.val ∧ d.ok K = true := by
  have e1 : (fnA.map fun d => fnV K (d.adr K)) = fnA.map DfA.val := congrArg (fun z : AlM => z.1) c
  have e2 : (fnA.map fun d => d.ok K) ++ (cks.map fun c => c K) = (fnA.map fun _ => true) ++ (cks.map fun _ => true) := congrArg (fun z : AlM => z.2) c
  have m := List.mem_of_getElem? h
  refine ⟨List.map_inj_left.mp e1 d m, ?_⟩
  have e3 := (List.append_inj e2 (by rw [List.length_map, List.length_map])).1
  exact List.map_inj_left.mp e3 d m
theorem says_ck (c : obsM K = valM) (i : Nat) {f : PySem.W.Frag → Bool} (h : cks[i]? = some f) : f K = true := by
  have e2 : (fnA.map fun d => d.ok K) ++ (cks.map fun c => c K) = (fnA.map fun _ => true) ++ (cks.map fun _ => true) := congrArg (fun z : AlM => z.2) c
  have e3 := (List.append_inj e2 (by rw [List.length_map, List.length_map])).2
  exact List.map_inj_left.mp e3 f (List.mem_of_getElem? h)
theorem says_def {h : Heap} {mg : Str → Option Value} (X : K.In h) (G : h.Ns mainGlobals mg) (c : obsM K = valM) (i n : Nat) (x : Str) (hi : fnA[i]? = some (gG n x)) (hx : x ∈ gloN) : DefAt K mg x (top n) := by
  obtain ⟨e, ok⟩ := says_fn c i hi
  obtain ⟨fd, F⟩ := DfA.funD e ok rfl
  exact ⟨_, fd, F, He.glo_ok X G (List.all_eq_true.mp (says_ck c 1 rfl) x hx)⟩
theorem says_free {h : Heap} {mg : Str → Option Value} (X : K.In h) (G : h.Ns mainGlobals mg) (c : obsM K = valM) (x : Str) (hx : x ∈ freeN) : mg x = none := He.free_ok X G (List.all_eq_true.mp (says_ck c 0 rfl) x hx)
theorem says_glo {h : Heap} {mg : Str → Option Value} (X : K.In h) (G : h.Ns mainGlobals mg) (c : obsM K = valM) (x : Str) (hx : x ∈ gloN) : mg x = some (.ref (He.ga K x)) := He.glo_ok X G (List.all_eq_true.mp (says_ck c 1 rfl) x hx)
end
theorem facts {w : World} {K : PySem.W.Frag} {h : Heap} {mg : Str → Option Value} (X : K.In h) (G : h.Ns mainGlobals mg) (c : obsM K = valM) (base : Heap) (XB : K.In base) : CalG lw.prog w K mg base "law" 9 ["_law_script"] (spLaw (K := K)) := by
  have T : Tx K mg := ⟨says_free X G c "isinstance" (by decide +kernel), says_free X G c "int" (by decide +kernel), says_free X G c "bool" (by decide +kernel), says_free X G c "tuple" (by decide +kernel), says_free X G c "all" (by decide +kernel), says_free X G c "len" (by decide +kernel), says_free X G c "abs" (by decide +kernel), says_free X G c "sum" (by decide +kernel), says_free X G c "zip" (by decide +kernel), says_free X G c "list" (by decide +kernel), says_free X G c "sorted" (by decide +kernel), says_free X G c "set" (by decide +kernel), says_free X G c "range" (by decide +kernel), says_free X G c "iter" (by decide +kernel), says_free X G c "repr" (by decide +kernel), says_free X G c "super" (by decide +kernel)⟩
  have D1 : DefAt K mg "divisor_of" (top 1) := says_def X G c 0 1 "divisor_of" rfl (by decide +kernel)
  have D2 : DefAt K mg "common_divisor" (top 2) := says_def X G c 1 2 "common_divisor" rfl (by decide +kernel)
  have D3 : DefAt K mg "dot_by" (top 3) := says_def X G c 2 3 "dot_by" rfl (by decide +kernel)
  have D5 : DefAt K mg "is_integer" (top 5) := says_def X G c 3 5 "is_integer" rfl (by decide +kernel)
  have D6 : DefAt K mg "are_integers" (top 6) := says_def X G c 4 6 "are_integers" rfl (by decide +kernel)
  have D7 : DefAt K mg "is_ray" (top 7) := says_def X G c 5 7 "is_ray" rfl (by decide +kernel)
  have D8 : DefAt K mg "is_ray_of" (top 8) := says_def X G c 6 8 "is_ray_of" rfl (by decide +kernel)
  have D12 : DefAt K mg "is_class_size" (top 12) := says_def X G c 7 12 "is_class_size" rfl (by decide +kernel)
  have D13 : DefAt K mg "length_by" (top 13) := says_def X G c 8 13 "length_by" rfl (by decide +kernel)
  have D28 : DefAt K mg "moduli_by" (top 28) := says_def X G c 9 28 "moduli_by" rfl (by decide +kernel)
  have D29 : DefAt K mg "is_modulus" (top 29) := says_def X G c 10 29 "is_modulus" rfl (by decide +kernel)
  have D30 : DefAt K mg "rests_by" (top 30) := says_def X G c 11 30 "rests_by" rfl (by decide +kernel)
  have D31 : DefAt K mg "rest_by" (top 31) := says_def X G c 12 31 "rest_by" rfl (by decide +kernel)
  have D32 : DefAt K mg "is_ruled_by" (top 32) := says_def X G c 13 32 "is_ruled_by" rfl (by decide +kernel)
  have D34 : DefAt K mg "want_rule" (top 34) := says_def X G c 14 34 "want_rule" rfl (by decide +kernel)
  have D36 : DefAt K mg "is_order" (top 36) := says_def X G c 15 36 "is_order" rfl (by decide +kernel)
  have D37 : DefAt K mg "rest_turned" (top 37) := says_def X G c 16 37 "rest_turned" rfl (by decide +kernel)
  have D38 : DefAt K mg "is_meant" (top 38) := says_def X G c 17 38 "is_meant" rfl (by decide +kernel)
  have D42 : DefAt K mg "_law_spring" (top 42) := says_def X G c 18 42 "_law_spring" rfl (by decide +kernel)
  have D43 : DefAt K mg "_law_dip" (top 43) := says_def X G c 19 43 "_law_dip" rfl (by decide +kernel)
  have D44 : DefAt K mg "_law_pick" (top 44) := says_def X G c 20 44 "_law_pick" rfl (by decide +kernel)
  have D45 : DefAt K mg "_law_same" (top 45) := says_def X G c 21 45 "_law_same" rfl (by decide +kernel)
  have D46 : DefAt K mg "_law_is_whole" (top 46) := says_def X G c 22 46 "_law_is_whole" rfl (by decide +kernel)
  have D47 : DefAt K mg "_law_common" (top 47) := says_def X G c 23 47 "_law_common" rfl (by decide +kernel)
  have D48 : DefAt K mg "_law_common_of" (top 48) := says_def X G c 24 48 "_law_common_of" rfl (by decide +kernel)
  have D49 : DefAt K mg "_law_is_beam" (top 49) := says_def X G c 25 49 "_law_is_beam" rfl (by decide +kernel)
  have D50 : DefAt K mg "_law_made" (top 50) := says_def X G c 26 50 "_law_made" rfl (by decide +kernel)
  have D51 : DefAt K mg "_law_dot" (top 51) := says_def X G c 27 51 "_law_dot" rfl (by decide +kernel)
  have D52 : DefAt K mg "_law_rests" (top 52) := says_def X G c 28 52 "_law_rests" rfl (by decide +kernel)
  have D53 : DefAt K mg "_law_list" (top 53) := says_def X G c 29 53 "_law_list" rfl (by decide +kernel)
  have D54 : DefAt K mg "_law_is_for" (top 54) := says_def X G c 30 54 "_law_is_for" rfl (by decide +kernel)
  have D55 : DefAt K mg "_law_sets" (top 55) := says_def X G c 31 55 "_law_sets" rfl (by decide +kernel)
  have D56 : DefAt K mg "_law_all" (top 56) := says_def X G c 32 56 "_law_all" rfl (by decide +kernel)
  have D57 : DefAt K mg "_law_axes" (top 57) := says_def X G c 33 57 "_law_axes" rfl (by decide +kernel)
  have D58 : DefAt K mg "_law_part" (top 58) := says_def X G c 34 58 "_law_part" rfl (by decide +kernel)
  have D59 : DefAt K mg "_law_moved" (top 59) := says_def X G c 35 59 "_law_moved" rfl (by decide +kernel)
  have D60 : DefAt K mg "_law_turn_of" (top 60) := says_def X G c 36 60 "_law_turn_of" rfl (by decide +kernel)
  have D61 : DefAt K mg "_law_marks_of" (top 61) := says_def X G c 37 61 "_law_marks_of" rfl (by decide +kernel)
  have D62 : DefAt K mg "_law_is_told" (top 62) := says_def X G c 38 62 "_law_is_told" rfl (by decide +kernel)
  have D63 : DefAt K mg "_law_are_rays_right" (top 63) := says_def X G c 39 63 "_law_are_rays_right" rfl (by decide +kernel)
  have D64 : DefAt K mg "_law_is_lot_right" (top 64) := says_def X G c 40 64 "_law_is_lot_right" rfl (by decide +kernel)
  have D65 : DefAt K mg "law" (top 65) := says_def X G c 41 65 "law" rfl (by decide +kernel)
  have D19 : DefAt1 K mg "want" (top 19) (.int (-1)) := by
    obtain ⟨e, ok⟩ := says_fn c 53 rfl
    obtain ⟨fd, F⟩ := DfA.funD e ok rfl
    exact ⟨_, fd, F, says_glo X G c "want" (by decide +kernel)⟩
  have RK := rulesB_ok X G (says_ck c 3 rfl)
  obtain ⟨i1, i2⟩ := He.ba (says_ck c 2 rfl)
  have hL := He.int_ok X G i1
  have hM := He.int_ok X G i2
  have RCr : RCls K (aR K) (aR K) := rclsB_ok (says_ck c 4 rfl)
  have RCt : RCls K (aR K) (aT K) := rclsB_ok (says_ck c 5 rfl)
  have KC : KCls K := kclsB_ok (says_ck c 6 rfl)
  have gR := says_glo X G c "Rule" (by decide +kernel)
  have gT := says_glo X G c "TurnedRule" (by decide +kernel)
  obtain ⟨fd__init__, F__init__⟩ : ∃ fd, FunM K "__init__" "Rule.__init__" (mth 39 0) (aM K "__init__") fd := by
    obtain ⟨e, ok⟩ := says_fn c 42 rfl
    exact DfA.funD e ok rfl
  obtain ⟨fdtaken, Ftaken⟩ : ∃ fd, FunM K "taken" "Rule.taken" (mth 39 3) (aM K "taken") fd := by
    obtain ⟨e, ok⟩ := says_fn c 43 rfl
    exact DfA.funD e ok rfl
  obtain ⟨fd__call__, F__call__⟩ : ∃ fd, FunM K "__call__" "Rule.__call__" (mth 39 4) (aM K "__call__") fd := by
    obtain ⟨e, ok⟩ := says_fn c 44 rfl
    exact DfA.funD e ok rfl
  obtain ⟨fd__contains__, F__contains__⟩ : ∃ fd, FunM K "__contains__" "Rule.__contains__" (mth 39 5) (aM K "__contains__") fd := by
    obtain ⟨e, ok⟩ := says_fn c 45 rfl
    exact DfA.funD e ok rfl
  obtain ⟨fd__len__, F__len__⟩ : ∃ fd, FunM K "__len__" "Rule.__len__" (mth 39 6) (aM K "__len__") fd := by
    obtain ⟨e, ok⟩ := says_fn c 46 rfl
    exact DfA.funD e ok rfl
  obtain ⟨fd__iter__, F__iter__⟩ : ∃ fd, FunM K "__iter__" "Rule.__iter__" (mth 39 7) (aM K "__iter__") fd := by
    obtain ⟨e, ok⟩ := says_fn c 47 rfl
    exact DfA.funD e ok rfl
  obtain ⟨fd__eq__, F__eq__⟩ : ∃ fd, FunM K "__eq__" "Rule.__eq__" (mth 39 8) (aM K "__eq__") fd := by
    obtain ⟨e, ok⟩ := says_fn c 48 rfl
    exact DfA.funD e ok rfl
  obtain ⟨fdsize_now, Fsize_now⟩ : ∃ fd, FunM K "size_now" "Rule.size_now" (mth 39 1) (pgA K (aR K) "size_now") fd := by
    obtain ⟨e, ok⟩ := says_fn c 49 rfl
    exact DfA.funD e ok rfl
  obtain ⟨fdmodulus_now, Fmodulus_now⟩ : ∃ fd, FunM K "modulus_now" "Rule.modulus_now" (mth 39 2) (pgA K (aR K) "modulus_now") fd := by
    obtain ⟨e, ok⟩ := says_fn c 50 rfl
    exact DfA.funD e ok rfl
  obtain ⟨fdord, Ford⟩ : ∃ fd, FunM K "order_now" "TurnedRule.order_now" (mth 40 1) (pgA K (aT K) "order_now") fd := by
    obtain ⟨e, ok⟩ := says_fn c 51 rfl
    exact DfA.funD e ok rfl
  have C19 := c_want (P := lw.prog) (w := w) (base := base) D19
  have C1 := c_divisor (P := lw.prog) (w := w) (base := base) D1
  have C2 := c_common (P := lw.prog) (w := w) (base := base) T D2 C1
  have C3 := c_dot (P := lw.prog) (w := w) (base := base) T D3
  have C5 := c_isint (P := lw.prog) (w := w) (base := base) T D5
  have C6 := c_areint (P := lw.prog) (w := w) (base := base) T D6 C5
  have C7 := c_ray (P := lw.prog) (w := w) (base := base) T D7 C6 C2
  have C8 := c_rayof (P := lw.prog) (w := w) (base := base) T D8 C7
  have C12 := c_class (P := lw.prog) (w := w) (base := base) D12 hL hM C5
  have C13 := c_len (P := lw.prog) (w := w) (base := base) D13 C3
  have C28 := c_moduli (P := lw.prog) (w := w) (base := base) T RK D28
  have C29 := c_ismod (P := lw.prog) (w := w) (base := base) D29 C5 C28
  have C30 := c_restsby (P := lw.prog) (w := w) (base := base) RK D30
  have C31 := c_rest (P := lw.prog) (w := w) (base := base) T D31
  have C32 := c_ruled (P := lw.prog) (w := w) (base := base) RK D32 C13
  have C34 := c_wantrule (P := lw.prog) (w := w) (base := base) D34 C19 C12 C29
  have C36 := c_isorder (P := lw.prog) (w := w) (base := base) T D36 C5
  have C37 := c_restturned (P := lw.prog) (w := w) (base := base) T D37 C31
  have C38 := c_meant (P := lw.prog) (w := w) (base := base) D38 C8 C32
  have C42 := c_spring (P := lw.prog) (w := w) (base := base) T D42
  have C43 := c_dip (P := lw.prog) (w := w) (base := base) T D43
  have C44 := c_pick (P := lw.prog) (w := w) (base := base) T D44 C43
  have C45 := c_same (P := lw.prog) (w := w) (base := base) T D45
  have C46 := c_whole (P := lw.prog) (w := w) (base := base) T D46
  have C47 := c_lcommon (P := lw.prog) (w := w) (base := base) T D47
  have C48 := c_lcommonof (P := lw.prog) (w := w) (base := base) T D48 C47
  have C49 := c_beam (P := lw.prog) (w := w) (base := base) T D49 C46 C48
  have C50 := c_made (P := lw.prog) (w := w) (base := base) T D50 C48
  have C51 := c_ldot (P := lw.prog) (w := w) (base := base) T D51
  have C52 := c_lrests (P := lw.prog) (w := w) (base := base) T D52
  have C53 := c_llist (P := lw.prog) (w := w) (base := base) D53
  have C54 := c_isfor (P := lw.prog) (w := w) (base := base) T D54 C51
  have C55 := c_sets (P := lw.prog) (w := w) (base := base) T D55 C51
  have C56 := c_all (P := lw.prog) (w := w) (base := base) T D56 C49
  have C57 := c_axes (P := lw.prog) (w := w) (base := base) T D57
  have C58 := c_part (P := lw.prog) (w := w) (base := base) T D58 C43
  have C59 := c_moved (P := lw.prog) (w := w) (base := base) T D59 C52 C53
  have C60 := c_turnof (P := lw.prog) (w := w) (base := base) T D60 C43
  have C61 := c_marks (P := lw.prog) (w := w) (base := base) T D61 C52 C53
  have C62 := c_told (P := lw.prog) (w := w) (base := base) (Cr := aR K) T D62 C59 C45
  have C63 := c_rays (P := lw.prog) (w := w) (base := base) (Cr := aR K) T D63 C59 C45 C50 C44 C43 C57 C54 C61
  have C64 := c_lot (P := lw.prog) (w := w) (base := base) (Cr := aR K) T D64 C56 C57 C58 C54 C61 C45 C55 C51
  have b__init__ : Binds K fd__init__ ["self", "size", "modulus"] [] := F__init__.bindsN fun _ _ _ _ _ _ us hl => match us, hl with | [_, _, _], _ => rfl
  have btaken : Binds K fdtaken ["self", "lot"] [] := Ftaken.bindsN fun _ _ _ _ _ _ us hl => match us, hl with | [_, _], _ => rfl
  have b__call__ : Binds K fd__call__ ["self", "ray"] [] := F__call__.bindsN fun _ _ _ _ _ _ us hl => match us, hl with | [_, _], _ => rfl
  have b__contains__ : Binds K fd__contains__ ["self", "thing"] [] := F__contains__.bindsN fun _ _ _ _ _ _ us hl => match us, hl with | [_, _], _ => rfl
  have b__len__ : Binds K fd__len__ ["self"] [] := F__len__.bindsN fun _ _ _ _ _ _ us hl => match us, hl with | [_], _ => rfl
  have b__eq__ : Binds K fd__eq__ ["self", "other"] [] := F__eq__.bindsN fun _ _ _ _ _ _ us hl => match us, hl with | [_, _], _ => rfl
  have bsize_now : Binds K fdsize_now ["self"] [] := Fsize_now.bindsN fun _ _ _ _ _ _ us hl => match us, hl with | [_], _ => rfl
  have bmodulus_now : Binds K fdmodulus_now ["self"] [] := Fmodulus_now.bindsN fun _ _ _ _ _ _ us hl => match us, hl with | [_], _ => rfl
  have bord : Binds K fdord ["self"] [] := Ford.bindsN fun _ _ _ _ _ _ us hl => match us, hl with | [_], _ => rfl
  have kwc : KwBind fd__call__ ["self", "ray"] "ray" := by
    obtain ⟨oc, od, dV, kV, doc, pm, an, cdv, ct, osl, rfl, lk, hcd, hD, hK⟩ := F__call__.ex
    rcases hD with ⟨_, rfl⟩ | ⟨e, _⟩
    · exact fun a v => rfl
    · exact absurd rfl e
  have kwt : KwBind fdtaken ["self", "lot"] "lot" := by
    obtain ⟨oc, od, dV, kV, doc, pm, an, cdv, ct, osl, rfl, lk, hcd, hD, hK⟩ := Ftaken.ex
    rcases hD with ⟨_, rfl⟩ | ⟨e, _⟩
    · exact fun a v => rfl
    · exact absurd rfl e
  have Msize := m_size (P := lw.prog) (w := w) (mg := mg) (base := base) (Cr := aR K) Fsize_now
  have Mmod := m_mod (P := lw.prog) (w := w) (mg := mg) (base := base) (Cr := aR K) Fmodulus_now
  have Mord := m_ord (P := lw.prog) (w := w) (mg := mg) (base := base) (Cr := aR K) Ford
  have Mlen := m_len (P := lw.prog) (w := w) (mg := mg) (base := base) (Cr := aR K) T F__len__
  have Mcon := m_con (P := lw.prog) (w := w) (mg := mg) (base := base) (Cr := aR K) F__contains__ C38
  have Mcall := m_call (P := lw.prog) (w := w) (mg := mg) (base := base) (Cr := aR K) F__call__ C38 C19 C31
  have Mtak := m_taken (P := lw.prog) (w := w) (mg := mg) (base := base) (Cr := aR K) T Ftaken C38 C19 C31
  have Meq := m_eq (P := lw.prog) (w := w) (mg := mg) (base := base) (Cr := aR K) T KC gR F__eq__
  have Minit := m_init (P := lw.prog) (w := w) (mg := mg) (base := base) (Cr := aR K) T F__init__ C34 C30
  have aRtaken := atB_ok (says_ck c 7 rfl)
  have aR__call__ := atB_ok (says_ck c 8 rfl)
  have aR__contains__ := atB_ok (says_ck c 9 rfl)
  have aR__len__ := atB_ok (says_ck c 10 rfl)
  have aR__iter__ := atB_ok (says_ck c 11 rfl)
  have RKR : RuleK lw.prog w K mg base (aR K) (aR K) :=
    ⟨RCr, ⟨_, _, _, propB_ok (says_ck c 12 rfl), Msize, bsize_now⟩, ⟨_, _, _, propB_ok (says_ck c 13 rfl), Mmod, bmodulus_now⟩, ⟨_, _, ⟨aR__len__.1, aR__len__.2.1⟩, Mlen, b__len__⟩, ⟨_, RCr, aR__iter__.1, aR__iter__.2.1, _, F__iter__⟩,
      ⟨_, _, ⟨aR__contains__.1, aR__contains__.2.1⟩, Mcon, b__contains__⟩, ⟨_, _, ⟨aR__call__.1, aR__call__.2.1, aR__call__.2.2.2⟩, Mcall, b__call__, kwc⟩, ⟨_, _, ⟨aRtaken.1, aRtaken.2.1, aRtaken.2.2.1⟩, Mtak, btaken, kwt⟩⟩
  have aTtaken := atB_ok (says_ck c 14 rfl)
  have aT__call__ := atB_ok (says_ck c 15 rfl)
  have aT__contains__ := atB_ok (says_ck c 16 rfl)
  have aT__len__ := atB_ok (says_ck c 17 rfl)
  have aT__iter__ := atB_ok (says_ck c 18 rfl)
  have RKT : RuleK lw.prog w K mg base (aR K) (aT K) :=
    ⟨RCt, ⟨_, _, _, propB_ok (says_ck c 19 rfl), Msize, bsize_now⟩, ⟨_, _, _, propB_ok (says_ck c 20 rfl), Mmod, bmodulus_now⟩, ⟨_, _, ⟨aT__len__.1, aT__len__.2.1⟩, Mlen, b__len__⟩, ⟨_, RCt, aT__iter__.1, aT__iter__.2.1, _, F__iter__⟩,
      ⟨_, _, ⟨aT__contains__.1, aT__contains__.2.1⟩, Mcon, b__contains__⟩, ⟨_, _, ⟨aT__call__.1, aT__call__.2.1, aT__call__.2.2.2⟩, Mcall, b__call__, kwc⟩, ⟨_, _, ⟨aTtaken.1, aTtaken.2.1, aTtaken.2.2.1⟩, Mtak, btaken, kwt⟩⟩
  have e1 := eqB_ok (says_ck c 24 rfl)
  have e2 := eqB_ok (says_ck c 25 rfl)
  have EK := eqkB_ok (says_ck c 26 rfl) e1 e2
  have SK := sup_ok (says_ck c 27 rfl) (says_ck c 28 rfl) (says_ck c 29 rfl) (says_ck c 30 rfl) (by decide +kernel)
  obtain ⟨fdI, FS⟩ : ∃ fd, FunS K (aI K) fd (aCC K) (aCD K) := by
    obtain ⟨e, ok⟩ := says_fn c 52 rfl
    obtain ⟨oc, od, dV, kV, doc, pm, an, cdv, ct, osl, cl, lk, h1, h2, h3, h4⟩ := DfA.any e ok
    have lk' : K.lookup (aI K) = some ⟨oc, od, .func (PySem.W.fnX "__init__" "TurnedRule.__init__" aS bS sS cl dV kV doc pm an cdv ct), osl⟩ := lk
    obtain ⟨z, rfl⟩ : ∃ z, cl = [(("__class__" : Str), z)] := by
      match cl, h1 with
      | [(n, z)], h1 => exact ⟨z, by have := (List.cons.inj h1).1; rw [← this]⟩
    have hcc : aCC K = z := by unfold aCC; rw [lk']
    obtain ⟨q, rfl⟩ : ∃ q, cdv = .ref q := by
      cases cdv with
      | ref q => exact ⟨q, rfl⟩
      | _ => cases h2
    have hcd : aCD K = q := by unfold aCD; rw [lk']; rfl
    rcases h3 with ⟨_, rfl⟩ | ⟨e3, _⟩
    · rw [hcc, hcd]
      exact ⟨_, ⟨oc, od, kV, doc, pm, an, ct, osl, rfl, lk'⟩, h2⟩
    · exact absurd rfl e3
  have hcc : ∃ oc wc, base.get? (aCC K) = some oc ∧ oc.data = .cell (some wc) := by
    obtain ⟨cl, cld, csl, e⟩ := SK.cell
    exact ⟨_, _, XB _ _ e, rfl⟩
  have MI := m_tinit (P := lw.prog) (w := w) (mg := mg) (base := base) (Cr := aR K) (Ct := aT K) T RCt FS SK hcc Minit b__init__ C19 C36 C37 C30
  have bI : Binds K fdI psS [] := by
    obtain ⟨oc, od, kV, doc, pm, an, ct, osl, rfl, lk⟩ := FS.ex
    exact Binds.all fun us hl => match us, hl with | [_, _, _, _], _ => rfl
  exact c_law T KC D65 RKR RKT EK (mkB_ok (says_ck c 23 rfl)) MI bI gT (mkB_ok (says_ck c 22 rfl)) Minit b__init__ gR Meq b__eq__ ⟨_, _, _, propB_ok (says_ck c 21 rfl), Mord, bord⟩ C42 C60 C59 C45 C62 C63 C64
end RM
namespace RM
open PySem PySem.Spec PyProof.Rows L2
theorem law_room : Room 9 callerA := ⟨rfl, by decide, by decide⟩
theorem law_walk {q : Program} {loose : List Str} {XP : (Str → Option Value) → Heap → Prop} {d : DefRec} (hn : lw.most = some 63) (hdf : d.params.defaults = []) (hname : d.name = ("law" : Str)) : PySem.W.WalkO q loose XP hk.says lw.row.toRowW d [] (fun f vs => PySem.call f vs) := by
  refine Att.attach_call hn hdf fun w s₀ s₁ mg mb fa o pm cd doc a vs ns G Y ho hd hcd hmg hobj hints hlen hg => ?_
  obtain ⟨K, KX, c⟩ := Y
  rw [hname] at hmg
  exact law_end (nm := "law") (x := "_law_script") (sp := spLaw (K := K)) KX G.T.g G.T.b G.T.builtins G.T.nolimit hg hobj hints (Nat.le_trans hlen (by rw [sizeLine_eq]; decide)) law_room (fun base XB _ => facts KX G.T.g c base XB) hmg fun H hS => ⟨a, ns, rfl, hS, Nat.le_trans hlen (by rw [sizeLine_eq]; decide), fun _ => rfl⟩
end RM
open PySem PySem.W PySem.Calls PyProof.Rows
theorem PySem.Challenge.cw_rightmarks_k40_whole_turned_rules_holds : PySem.Challenge.rw_rightmarks_k40_whole_turned_rules.Holds := by
  w_on; o_law
  refine HandSHeadRun.head_any (r := RM.R) (q := view RM.R.prog [65]) (H := RM.hk) (ob := RM.ob) (M := 6000) (loose := RM.lnames) (d := HandSHeadRun.topDef RM.R.prog 65) (kwd := []) RM.ob_eq
    (by kernel_rfl) (fun s => by kernel_rfl) RM.run (by kernel_rfl) (by kernel_rfl) (by kernel_rfl) (by rfl) (by first | assumption | decide +kernel) (by decide +kernel) ⟨rfl, rfl, rfl, rfl, rfl, by decide +kernel⟩ ?hw ?hc
  case hw => w_witness2
  case hc => exact RM.law_walk rfl (by kernel_rfl) (by kernel_rfl)
