import PyProof.Rows.All
import Wide.All
import OpenK.AllK
import Wide.FinOn
import HandS.ForMost
import HandS.Ends
import HandS.SortInts
import HandS.Strs
import PyProof.ListStr
import HandS.Style
import HandS.SetKeys
import KE.SortData
import KE.KRevSl
import PyProof.ReprReads
import PyProof.DictMoreH
import PyProof.ReprRoads
import PyProof.EnumMake
import PyProof.Draws
import KE.GoesMore
import HandS.Codes
import HandS.OwnEq
import HandS.Property
import HandS.IsInst
import HandS.Conv
import HandS.DictComp
import HandS.Replace
import PyProof.ToksMono
import HandS.TupSets
import PySem.Challenge.RW_runsback_k71_whole_many_denied_at_once
set_option Elab.async false
set_option linter.all false
/-! A law whose def asks what the caller is doing: its def is shown at the law's own caller alone. -/
namespace Rb
set_option linter.all false
set_option maxRecDepth 100000
set_option maxHeartbeats 4000000
open PySem PySem.Spec PyProof.Rows L2
/-- a def, called by the law's caller, does as promised -/
structure TopOk (P : Program) (w : World) (K : PySem.W.Frag) (mg : Str → Option Value) (base : Heap) (f : Addr) (fd : FuncData) (ps : List Str) (sp : Sp) : Prop where
  run : ∀ (s : Shared) (H : Hp) (us : List Value) (vs : List V) (Q : VK), Env0 P w K mg base callerA [] s H → us.length = ps.length → Vals vs us → sp vs H Q (fun _ _ _ => False) → BindsTo s fd ⟨us, []⟩ (ps.zip us) →
    codeAny (model P w) callerA (.call (.ref f) ⟨us, []⟩) (fun r s' => ∃ u, r = .ok (.ret u) ∧ CE [] P w H s Q u s') s
theorem caller_guards (env : Env) : (callerA.deeper env).guards = some [] := by
  first | rfl | simp [Around.deeper, callerA]
theorem top_ok {P : Program} {w : World} {K : PySem.W.Frag} {mg : Str → Option Value} {base : Heap} {k : Nat} {x qual : Str} {st : Stmt} {f : Addr} {fd : FuncData} {N ps : List Str} {sp : Sp} (F : Fun K x qual st f fd) (S : FnScope N ps (defScope st))
    (hr : Room (k + 1) callerA)
    (hbody : ∀ (cdv : Value) (s : Shared) (H : Hp) (vs : List V) (Q : VK), Room k (callerA.deeper (envOfC qual (defScope st) s.heap.objs.size f cdv)) → vs.length = ps.length → sp vs H Q (fun _ _ _ => False) →
      ∃ t, PSs (cxOf CX0 P w K mg base N qual (defScope st) f cdv callerA [] s H (fun _ _ _ => False)).nox (defBody st) t ∧ t { nx := fun _ H' => Q .non H', rt := Q } (L2.start N vs) H) : TopOk P w K mg base f fd ps sp := by
  obtain ⟨oc, od, kV, doc, pm, an, cdv, ct, osl, rfl, lk, hcd⟩ := F.ex
  refine ⟨fun s H us vs Q e0 hl r hsp hb => ?_⟩
  have kept : ∀ b o, base.get? b = some o → s.heap.get? b = some o := fun b o e => (e0.bs b o e).1
  have KX : K.In s.heap := e0.mod.kin.keeps kept
  have nl : s.heap.NoLimit := e0.mod.nolimit.keeps kept
  have hv : vs.length = ps.length := r.length.trans hl
  refine codeAny_call_function hr.depth (KX _ _ lk) rfl S.co S.gen rfl (PySem.W.codeRec_of KX hcd) (hb _ _ _ _ ?_)
  refine wpAny_newFunctionEnv_cells S.kind (fun y hy => ?_) fun env he s1 made => ?_
  · rcases S.par y.1 (List.of_mem_zip (a := y.1) (b := y.2) hy).1 with q | q
    · exact .inl q
    · exact .inr ⟨q, PySem.W.cellsFrom_some _ _ _ (.inl q)⟩
  subst he
  refine ⟨nl.keeps made.toInCall.keep, codeAny_func ?_⟩
  obtain ⟨t, ht, hq⟩ := hbody cdv s H vs Q (hr.deeper _) hv hsp
  have I : Inv (cxOf CX0 P w K mg base N qual (defScope st) f cdv callerA [] s H (fun _ _ _ => False)) [] (L2.start N vs) H s1 := inv_start S hr.hd e0 hv r made
  refine wpAny_mono (ht.nox.run [] s1 (L2.start N vs) H _ I hq) (fun fl s' hs => ?_) (fun e s' hs => ?_)
  · cases fl with
    | next =>
      obtain ⟨σ', H', J, q⟩ := hs
      exact ⟨_, rfl, .non, H', J.os, J.bare, J.base, J.hok, rfl, q⟩
    | ret u =>
      obtain ⟨v, σ', H', J, rv, q⟩ := hs
      exact ⟨u, rfl, v, H', J.os, J.bare, J.base, J.hok, rv, q⟩
    | brk =>
      obtain ⟨_, _, _, q⟩ := hs
      exact q.elim
    | cont =>
      obtain ⟨_, _, _, q⟩ := hs
      exact q.elim
  · refine wpAny_mono hs (fun _ _ q => ?_) fun _ _ q => ?_
    · exact (show False from q).elim
    · exact (show False from q).elim
/-- what is tracked as the law begins: the script alone, known to the object -/
def scriptH (a : Addr) (o : Obj) (xs : List V) : Hp := fun b => if b = a then some (.frz o (.lst xs)) else none
theorem scriptH_at (a : Addr) (o : Obj) (xs : List V) : scriptH a o xs a = some (.frz o (.lst xs)) := if_pos rfl
theorem scriptH_off {a b : Addr} {o : Obj} {xs : List V} (h : b ≠ a) : scriptH a o xs b = none := if_neg h
theorem top_call {P : Program} {w : World} {K : PySem.W.Frag} {mg mb : Str → Option Value} {fa a : Addr} {fd : FuncData} {x : Str} {sp : Sp} {s₁ : Shared} {vs : List Value} {ns : List Int}
    (KX : K.In s₁.heap) (hm : s₁.heap.Ns mainGlobals mg) (hb : s₁.heap.Ns builtinsNs mb) (hbb : ∀ x : Str, x ≠ "__name__" → mb x = bootBuiltins x) (hlim : s₁.heap.NoLimit) (hg : s₁.gens = #[])
    (ha : s₁.heap.get? a = some { cls := .type "list", data := .seq vs.toArray }) (hi : IntsAre vs ns) (hl : ns.length ≤ sizeLine)
    (F : ∀ base : Heap, K.In base → base.Ns mainGlobals mg → TopOk P w K mg base fa fd [x] sp) (hbind : ∀ (s : Shared) (u : Value), BindsTo s fd ⟨[u], []⟩ [(x, u)])
    (hsp : ∀ H : Hp, SqL K H a (ns.map V.int) → sp [.ref a] H (fun v _ => v = .bl true) fun _ _ _ => False) :
    codeAny (model P w) callerA (.call (.ref fa) ⟨[.ref a], []⟩) (fun r s' => r = .ok (.ret (.bool true)) ∧ OldK s₁.heap s'.heap ∧ s'.os = s₁.os ∧ AllBare s'.gens) s₁ := by
  have rv : Vals (ns.map V.int) vs := vals_ints hi
  have lv : vs.length = ns.length := hi.length
  -- H: what is tracked; o: the script's object
  have go : ∀ H : Hp, (∀ b, H b = none ∨ (b = a ∧ K.lookup a = none ∧ ∃ o xs, H b = some (.frz o (.lst xs)))) → SqL K H a (ns.map V.int) → HOk P w H s₁.heap →
      codeAny (model P w) callerA (.call (.ref fa) ⟨[.ref a], []⟩) (fun r s' => r = .ok (.ret (.bool true)) ∧ OldK s₁.heap s'.heap ∧ s'.os = s₁.os ∧ AllBare s'.gens) s₁ := by
    intro H hO hS hok
    have nsOf : ∀ {b : Addr} {m : Str → Option Value}, s₁.heap.Ns b m → (hidT s₁.heap H).Ns b m := by
      rintro b m ⟨o, es, ep, e, d, r⟩
      refine ⟨o, es, ep, hidT_get e ?_, d, r⟩
      rcases hO b with z | ⟨z, _⟩
      · exact z
      · subst z
        rw [ha] at e
        cases e
        cases (show Data.seq vs.toArray _ = Data.dict es ep from d)
    have inB : K.In (hidT s₁.heap H) := by
      intro b o e
      refine hidT_get (KX b o e) ?_
      rcases hO b with z | ⟨z, z2, _⟩
      · exact z
      · subst z
        rw [z2] at e
        cases e
    have hM : Mod K mg (hidT s₁.heap H) := ⟨inB, nsOf hm, ⟨mb, nsOf hb, hbb⟩, by
      obtain ⟨mc, h1, h2⟩ := hlim
      exact ⟨mc, nsOf h1, h2⟩⟩
    have e0 : Env0 P w K mg (hidT s₁.heap H) callerA [] s₁ H :=
      { frames := rfl, mod := hM, bs := fun b o e => of_hidT e, bsz := Nat.le_of_eq (hidT_size _ _), funs := trivial, frf := fun b hb => by simp [frs] at hb, hok := hok, bare := .of_eq hg }
    refine codeAny_mono ((F _ inB (nsOf hm)).run s₁ H [.ref a] [.ref a] _ e0 rfl (.cons rfl .nil) (hsp H hS) (hbind s₁ (.ref a))) fun r s' q => ?_
    obtain ⟨u, rfl, v, H', os, bare, un, hok', r', rfl⟩ := q
    obtain rfl : u = Value.bool true := r'
    refine ⟨rfl, OldK.of_keep fun b o e => ?_, os, bare⟩
    rcases hO b with z | ⟨_, _, ob, xs, z⟩
    · exact un.keep b o e z (by simp [frs]) (by simp)
    · have z2 := un.frzs b ob _ z
      have e1 := (hok b _ z).1
      have e2 := (hok' b _ z2).1
      rw [e] at e1
      cases e1
      exact e2
  cases hk : K.lookup a with
  | some o =>
    have e := KX a o hk
    rw [ha] at e
    cases e
    exact go (fun _ => none) (fun _ => .inl rfl) (.inr ⟨_, vs.toArray, _, hk, rfl, rfl, rfl, by rw [List.size_toArray, lv]; exact hl, by simpa using rv⟩) (fun b u z => by cases (show (none : Option HO) = some u from z))
  | none =>
    refine go (scriptH a { cls := .type "list", data := .seq vs.toArray } (ns.map V.int)) (fun b => ?_) (.inl (.inr ⟨_, scriptH_at _ _ _⟩)) (fun b u z => ?_)
    · by_cases h : b = a
      · subst h
        exact .inr ⟨rfl, hk, _, _, scriptH_at _ _ _⟩
      · exact .inl (scriptH_off h)
    · by_cases h : b = a
      · subst h
        rw [scriptH_at] at z
        cases z
        exact ⟨ha, by rw [List.length_map]; exact hl, vs, _, rv, ha⟩
      · rw [scriptH_off h] at z
        cases z
theorem top_walk {l : PySem.W.OpenLaw} {n : Nat} {q : Program} {loose : List Str} {XP : (Str → Option Value) → Heap → Prop} {YP : World → Heap → Prop} {d : DefRec} {K : Params → PySem.W.Frag} {sp : PySem.W.Frag → Sp} {x : Str}
    (hn : l.most = some n) (hn2 : n ≤ sizeLine) (hdf : d.params.defaults = [])
    (hY : ∀ (w : World) (h : Heap), YP w h → (K w.params).In h)
    (F : ∀ (w : World) (mg : Str → Option Value) (fa : Addr) (h : Heap), (K w.params).In h → h.Ns mainGlobals mg → mg d.name = some (.ref fa) →
      ∃ fd : FuncData, (∀ (s : Shared) (u : Value), BindsTo s fd ⟨[u], []⟩ [(x, u)]) ∧
        ∀ base : Heap, (K w.params).In base → base.Ns mainGlobals mg → TopOk l.prog w (K w.params) mg base fa fd [x] (sp (K w.params)))
    (hsp : ∀ (K : PySem.W.Frag) (H : Hp) (a : Addr) (ns : List Int), ns.length ≤ n → SqL K H a (ns.map V.int) → sp K [.ref a] H (fun v _ => v = .bl true) fun _ _ _ => False) :
    PySem.W.WalkO q loose XP YP l.row.toRowW d [] (fun f vs => PySem.call f vs) := by
  refine Att.attach_call hn hdf fun w s₀ s₁ mg mb fa o pm cd doc a vs ns G Y ho hd hcd hmg hobj hints hlen hg => ?_
  have KX := hY w _ Y
  obtain ⟨fd, hb, hF⟩ := F w mg fa _ KX G.T.g hmg
  exact top_call KX G.T.g G.T.b G.T.builtins G.T.nolimit hg hobj hints (Nat.le_trans hlen hn2) hF hb fun H hS => hsp _ H a ns hlen hS
end Rb
/-! Rows of letters, nets, what rows make. Plain Lean, no program in sight. -/
namespace Rb
set_option autoImplicit false
/-- a letter: its deed's number, and whether it is the undoing -/
structure Lt where
  d : Fin 26
  u : Bool
  deriving DecidableEq
def Lt.inv (x : Lt) : Lt := ⟨x.d, !x.u⟩
theorem Lt.inv_inv (x : Lt) : x.inv.inv = x := by cases x; simp [Lt.inv]
theorem Lt.inv_ne (x : Lt) : x.inv ≠ x := by cases x; simp [Lt.inv]
theorem Lt.inv_d (x : Lt) : x.inv.d = x.d := rfl
theorem Lt.inv_u (x : Lt) : x.inv.u = !x.u := rfl
theorem Lt.eq_inv {x y : Lt} (h : x = y.inv) : y = x.inv := by rw [h, Lt.inv_inv]
abbrev Row := List Lt
def invR (r : Row) : Row := (r.map Lt.inv).reverse
theorem invR_nil : invR [] = [] := rfl
theorem invR_append (a b : Row) : invR (a ++ b) = invR b ++ invR a := by simp [invR]
theorem invR_cons (x : Lt) (r : Row) : invR (x :: r) = invR r ++ [x.inv] := by simp [invR]
theorem invR_invR (r : Row) : invR (invR r) = r := by
  induction r with
  | nil => rfl
  | cons x r ih => rw [invR_cons, invR_append, ih, invR_cons, invR_nil, Lt.inv_inv]; rfl
theorem invR_length (r : Row) : (invR r).length = r.length := by simp [invR]
/-- no neighbours undo one another -/
def Red : Row → Prop
  | [] => True
  | [_] => True
  | x :: y :: r => y ≠ x.inv ∧ Red (y :: r)
theorem Red.tail {x : Lt} {r : Row} (h : Red (x :: r)) : Red r := by
  cases r with
  | nil => trivial
  | cons y r => exact h.2
theorem red_cons {x : Lt} {r : Row} (h : Red r) (hx : ∀ y, r.head? = some y → y ≠ x.inv) : Red (x :: r) := by
  cases r with
  | nil => trivial
  | cons y r => exact ⟨hx y rfl, h⟩
theorem Red.left : ∀ {a b : Row}, Red (a ++ b) → Red a
  | [], _, _ => trivial
  | [_], _, _ => trivial
  | _ :: y :: a, _, h => ⟨h.1, Red.left (a := y :: a) h.2⟩
theorem Red.right : ∀ {a b : Row}, Red (a ++ b) → Red b
  | [], _, h => h
  | _ :: a, b, h => Red.right (a := a) (Red.tail h)
theorem red_glue : ∀ {a : Row} {y : Lt} {b : Row}, Red (a ++ [y]) → Red (y :: b) → Red (a ++ y :: b)
  | [], _, _, _, h => h
  | [_], _, _, h, h2 => ⟨h.1, h2⟩
  | _ :: z :: a, y, b, h, h2 => ⟨h.1, red_glue (a := z :: a) h.2 h2⟩
theorem red_snoc {a : Row} {x : Lt} (h : Red a) (hx : ∀ y, a.getLast? = some y → y ≠ x.inv) : Red (a ++ [x]) := by
  induction a with
  | nil => trivial
  | cons z a ih =>
    cases a with
    | nil =>
      refine ⟨?_, trivial⟩
      intro e
      exact hx z rfl (Lt.eq_inv e)
    | cons w a =>
      refine ⟨h.1, ih h.2 ?_⟩
      intro y hy
      exact hx y (by rw [List.getLast?_cons_cons]; exact hy)
theorem Red.last_ne {a : Row} {x : Lt} (h : Red (a ++ [x])) : ∀ y, a.getLast? = some y → y ≠ x.inv := by
  induction a with
  | nil => intro y hy; simp at hy
  | cons z a ih =>
    cases a with
    | nil =>
      intro y hy e
      simp at hy
      subst hy
      exact h.1 (Lt.eq_inv e)
    | cons w a =>
      intro y hy
      rw [List.getLast?_cons_cons] at hy
      exact ih h.2 y hy
theorem red_rev {r : Row} (h : Red r) : Red r.reverse := by
  induction r with
  | nil => trivial
  | cons x r ih =>
    rw [List.reverse_cons]
    refine red_snoc (ih h.tail) ?_
    intro y hy
    rw [List.getLast?_reverse] at hy
    cases r with
    | nil => simp at hy
    | cons z r =>
      simp at hy
      subst hy
      exact h.1
theorem red_map_inv {r : Row} (h : Red r) : Red (r.map Lt.inv) := by
  induction r with
  | nil => trivial
  | cons x r ih =>
    rw [List.map_cons]
    refine red_cons (ih h.tail) ?_
    intro y hy
    cases r with
    | nil => simp at hy
    | cons z r =>
      simp at hy
      subst hy
      intro e
      exact h.1 (by rw [← Lt.inv_inv z, e, Lt.inv_inv])
theorem red_inv {r : Row} (h : Red r) : Red (invR r) := red_rev (red_map_inv h)
/-- the stack of kept letters, the last one first -/
def push (k : Row) (x : Lt) : Row :=
  match k with
  | [] => [x]
  | y :: k' => if y = x.inv then k' else x :: y :: k'
def run (k : Row) (r : Row) : Row := r.foldl push k
def net (r : Row) : Row := (run [] r).reverse
theorem run_nil (k : Row) : run k [] = k := rfl
theorem run_cons (k : Row) (x : Lt) (r : Row) : run k (x :: r) = run (push k x) r := rfl
theorem run_append (k a b : Row) : run k (a ++ b) = run (run k a) b := List.foldl_append
theorem red_push {k : Row} (x : Lt) (h : Red k) : Red (push k x) := by
  cases k with
  | nil => trivial
  | cons y k =>
    unfold push
    by_cases e : y = x.inv
    · simp only [if_pos e]
      exact h.tail
    · simp only [if_neg e]
      exact ⟨e, h⟩
theorem red_run {k : Row} (r : Row) (h : Red k) : Red (run k r) := by
  induction r generalizing k with
  | nil => exact h
  | cons x r ih => exact ih (red_push x h)
theorem red_net (r : Row) : Red (net r) := red_rev (red_run r trivial)
theorem push_push {k : Row} (x : Lt) (h : Red k) : push (push k x) x.inv = k := by
  cases k with
  | nil => simp [push, Lt.inv_inv]
  | cons y k =>
    by_cases e : y = x.inv
    · subst e
      cases k with
      | nil => simp [push]
      | cons z k =>
        have hz : z ≠ x.inv.inv := h.1
        simp only [push, if_pos]
        rw [if_neg hz]
    · simp [push, if_neg e, Lt.inv_inv]
theorem run_pair {k : Row} (x : Lt) (r : Row) (h : Red k) : run k (x :: x.inv :: r) = run k r := by
  rw [run_cons, run_cons, push_push x h]
theorem run_mid {k : Row} (a b : Row) (x : Lt) (h : Red k) : run k (a ++ x :: x.inv :: b) = run k (a ++ b) := by
  rw [run_append, run_append, run_pair x b (red_run a h)]
theorem run_word {k : Row} (a w b : Row) (h : Red k) : run k (a ++ (w ++ (invR w ++ b))) = run k (a ++ b) := by
  induction w generalizing a b with
  | nil => rfl
  | cons x w ih =>
    rw [invR_cons]
    have e : a ++ (x :: w ++ (invR w ++ [x.inv] ++ b)) = (a ++ [x]) ++ (w ++ (invR w ++ ([x.inv] ++ b))) := by simp
    rw [e, ih]
    have e2 : a ++ [x] ++ ([x.inv] ++ b) = a ++ x :: x.inv :: b := by simp
    rw [e2, run_mid a b x h]
theorem run_stack {k : Row} (s r : Row) (h : Red k) : run k ((run s r).reverse) = run k (s.reverse ++ r) := by
  induction r generalizing s with
  | nil => rw [run_nil, List.append_nil]
  | cons x r ih =>
    rw [run_cons, ih]
    cases s with
    | nil => rfl
    | cons y s =>
      by_cases e : y = x.inv
      · have e1 : push (y :: s) x = s := by simp [push, e]
        rw [e1, List.reverse_cons]
        have e2 : s.reverse ++ [y] ++ x :: r = s.reverse ++ y :: y.inv :: r := by
          rw [e, Lt.inv_inv]; simp
        rw [e2, run_mid _ _ _ h]
      · have e1 : push (y :: s) x = x :: y :: s := by simp [push, e]
        rw [e1, List.reverse_cons]
        simp
theorem run_net {k : Row} (r : Row) (h : Red k) : run k (net r) = run k r := by
  have q := run_stack (k := k) [] r h
  simpa [net] using q
theorem net_net_right (a r : Row) : net (a ++ net r) = net (a ++ r) := by
  unfold net
  rw [run_append, run_append]
  have q := run_net (k := run [] a) r (red_run a trivial)
  unfold net at q
  rw [q]
theorem net_net_left (r b : Row) : net (net r ++ b) = net (r ++ b) := by
  unfold net
  rw [run_append, run_append]
  have q := run_net (k := []) r trivial
  unfold net at q
  rw [q]
theorem net_word (a w b : Row) : net (a ++ (w ++ (invR w ++ b))) = net (a ++ b) := by
  unfold net
  rw [run_word (k := []) a w b trivial]
theorem run_red {k r : Row} (h : Red (k.reverse ++ r)) : run k r = r.reverse ++ k := by
  induction r generalizing k with
  | nil => rfl
  | cons x r ih =>
    have e : push k x = x :: k := by
      cases k with
      | nil => rfl
      | cons y k =>
        have e1 : (y :: k).reverse ++ x :: r = (k.reverse ++ [y]) ++ ([x] ++ r) := by simp
        rw [e1] at h
        have h2 : Red (k.reverse ++ [y] ++ [x]) := by
          rw [← List.append_assoc] at h
          exact h.left
        have h3 := h2.last_ne y (by simp)
        simp [push, h3]
    rw [run_cons, e, ih]
    · simp
    · rw [List.reverse_cons]
      simpa using h
theorem net_red {r : Row} (h : Red r) : net r = r := by
  unfold net
  rw [run_red (k := []) (by simpa using h)]
  simp
theorem net_net (r : Row) : net (net r) = net r := net_red (red_net r)
theorem net_length_le (r : Row) : (net r).length ≤ r.length := by
  have h : ∀ (r k : Row), (run k r).length ≤ k.length + r.length := by
    intro r
    induction r with
    | nil => intro k; simp [run_nil]
    | cons x r ih =>
      intro k
      rw [run_cons]
      have h1 := ih (push k x)
      have h2 : (push k x).length ≤ k.length + 1 := by
        cases k with
        | nil => simp [push]
        | cons y k =>
          unfold push
          by_cases e : y = x.inv
          · simp only [if_pos e, List.length_cons]; omega
          · simp only [if_neg e, List.length_cons]; omega
      simp only [List.length_cons]
      omega
  have := h r []
  simpa [net] using this
theorem mem_push {k : Row} {x y : Lt} (h : y ∈ push k x) : y ∈ k ∨ y = x := by
  cases k with
  | nil => simp [push] at h; exact .inr h
  | cons z k =>
    unfold push at h
    by_cases e : z = x.inv
    · simp only [if_pos e] at h; exact .inl (List.mem_cons_of_mem _ h)
    · simp only [if_neg e] at h
      rcases List.mem_cons.mp h with h | h
      · exact .inr h
      · exact .inl h
theorem mem_run {k r : Row} {y : Lt} (h : y ∈ run k r) : y ∈ k ∨ y ∈ r := by
  induction r generalizing k with
  | nil => exact .inl h
  | cons x r ih =>
    rcases ih h with h | h
    · rcases mem_push h with h | h
      · exact .inl h
      · exact .inr (by rw [h]; exact List.mem_cons_self)
    · exact .inr (List.mem_cons_of_mem _ h)
theorem mem_net {r : Row} {y : Lt} (h : y ∈ net r) : y ∈ r := by
  rcases mem_run (List.mem_reverse.mp h) with h | h
  · simp at h
  · exact h

/-! ### what rows make -/
inductive Gen (R : List Row) : Row → Prop
  | nil : Gen R []
  | row {r w : Row} : r ∈ R → Gen R w → Gen R (r ++ w)
  | inv {r w : Row} : r ∈ R → Gen R w → Gen R (invR r ++ w)
  | ins {a b : Row} {x : Lt} : Gen R (a ++ b) → Gen R (a ++ x :: x.inv :: b)
  | del {a b : Row} {x : Lt} : Gen R (a ++ x :: x.inv :: b) → Gen R (a ++ b)
theorem Gen.app {R : List Row} {u v : Row} (h : Gen R u) (k : Gen R v) : Gen R (u ++ v) := by
  generalize e : u = z at h
  have h2 : Gen R (z ++ v) := by
    clear e
    induction h with
    | nil => exact k
    | row hr _ ih => rw [List.append_assoc]; exact .row hr ih
    | inv hr _ ih => rw [List.append_assoc]; exact .inv hr ih
    | ins _ ih =>
      rw [List.append_assoc] at ih ⊢
      exact .ins ih
    | del _ ih =>
      rw [List.append_assoc] at ih ⊢
      exact .del ih
  exact h2
theorem Gen.mem {R : List Row} {r : Row} (h : r ∈ R) : Gen R r := by
  have := Gen.row h (Gen.nil (R := R))
  simpa using this
theorem Gen.mem_inv {R : List Row} {r : Row} (h : r ∈ R) : Gen R (invR r) := by
  have := Gen.inv h (Gen.nil (R := R))
  simpa using this
theorem Gen.undo {R : List Row} {u : Row} (h : Gen R u) : Gen R (invR u) := by
  induction h with
  | nil => exact .nil
  | row hr _ ih => rw [invR_append]; exact ih.app (Gen.mem_inv hr)
  | inv hr _ ih => rw [invR_append, invR_invR]; exact ih.app (Gen.mem hr)
  | @ins a b x _ ih =>
    rw [invR_append] at ih
    have e : invR (a ++ x :: x.inv :: b) = invR b ++ x :: x.inv :: invR a := by
      rw [invR_append, invR_cons, invR_cons, Lt.inv_inv]; simp
    rw [e]
    exact .ins ih
  | @del a b x _ ih =>
    have e : invR (a ++ x :: x.inv :: b) = invR b ++ x :: x.inv :: invR a := by
      rw [invR_append, invR_cons, invR_cons, Lt.inv_inv]; simp
    rw [e] at ih
    rw [invR_append]
    exact .del ih
theorem Gen.drop {R : List Row} : ∀ {a w b : Row}, Gen R (a ++ (w ++ (invR w ++ b))) → Gen R (a ++ b) := by
  intro a w
  induction w generalizing a with
  | nil => intro b h; exact h
  | cons x w ih =>
    intro b h
    rw [invR_cons] at h
    have e : a ++ (x :: w ++ (invR w ++ [x.inv] ++ b)) = (a ++ [x]) ++ (w ++ (invR w ++ ([x.inv] ++ b))) := by simp
    rw [e] at h
    have h2 := ih h
    have e2 : a ++ [x] ++ ([x.inv] ++ b) = a ++ x :: x.inv :: b := by simp
    rw [e2] at h2
    exact .del h2
theorem Gen.put {R : List Row} : ∀ {a w b : Row}, Gen R (a ++ b) → Gen R (a ++ (w ++ (invR w ++ b))) := by
  intro a w
  induction w generalizing a with
  | nil => intro b h; exact h
  | cons x w ih =>
    intro b h
    have h2 : Gen R (a ++ x :: x.inv :: b) := .ins h
    have e2 : a ++ x :: x.inv :: b = (a ++ [x]) ++ ([x.inv] ++ b) := by simp
    rw [e2] at h2
    have h3 := ih (a := a ++ [x]) h2
    rw [invR_cons]
    have e : a ++ (x :: w ++ (invR w ++ [x.inv] ++ b)) = (a ++ [x]) ++ (w ++ (invR w ++ ([x.inv] ++ b))) := by simp
    rw [e]
    exact h3
theorem Gen.sub {R S : List Row} {w : Row} (h : Gen R w) (k : ∀ r ∈ R, Gen S r) : Gen S w := by
  induction h with
  | nil => exact .nil
  | row hr _ ih => exact (k _ hr).app ih
  | inv hr _ ih => exact (k _ hr).undo.app ih
  | ins _ ih => exact .ins ih
  | del _ ih => exact .del ih
theorem gen_stack {R : List Row} (s r : Row) : Gen R (s.reverse ++ r) ↔ Gen R (run s r).reverse := by
  induction r generalizing s with
  | nil => rw [run_nil, List.append_nil]
  | cons x r ih =>
    rw [run_cons, ← ih]
    cases s with
    | nil => simp [push]
    | cons y s =>
      by_cases e : y = x.inv
      · have e1 : push (y :: s) x = s := by simp [push, e]
        rw [e1, List.reverse_cons]
        have e2 : s.reverse ++ [y] ++ x :: r = s.reverse ++ y :: y.inv :: r := by
          rw [e, Lt.inv_inv]; simp
        rw [e2]
        exact ⟨.del, .ins⟩
      · have e1 : push (y :: s) x = x :: y :: s := by simp [push, e]
        rw [e1, List.reverse_cons]
        simp
theorem gen_net {R : List Row} {w : Row} : Gen R (net w) ↔ Gen R w := by
  have h := gen_stack (R := R) [] w
  simp at h
  exact h.symm
theorem gen_of_net {R : List Row} {v w : Row} (e : net v = net w) (h : Gen R v) : Gen R w := by
  rw [← gen_net, ← e, gen_net]; exact h
/-- the same lot, right of a word -/
def Cos (R : List Row) (u v : Row) : Prop := Gen R (u ++ invR v)
theorem Cos.refl (R : List Row) (u : Row) : Cos R u u := by
  have h := Gen.put (R := R) (a := []) (w := u) (b := []) (by simpa using Gen.nil)
  simpa [Cos] using h
theorem Cos.symm {R : List Row} {u v : Row} (h : Cos R u v) : Cos R v u := by
  have := Gen.undo h
  rwa [invR_append, invR_invR] at this
theorem Cos.trans {R : List Row} {u v w : Row} (h : Cos R u v) (k : Cos R v w) : Cos R u w := by
  have h2 := Gen.app h k
  have e : u ++ invR v ++ (v ++ invR w) = u ++ (invR v ++ (invR (invR v) ++ invR w)) := by
    rw [invR_invR]; simp
  rw [e] at h2
  exact h2.drop
theorem Cos.right {R : List Row} {u v : Row} (h : Cos R u v) (w : Row) : Cos R (u ++ w) (v ++ w) := by
  unfold Cos at *
  rw [invR_append]
  have h2 := Gen.put (R := R) (a := u) (w := w) (b := invR v) h
  simpa using h2
theorem Cos.unright {R : List Row} {u v w : Row} (h : Cos R (u ++ w) (v ++ w)) : Cos R u v := by
  unfold Cos at *
  rw [invR_append] at h
  refine Gen.drop (w := w) ?_
  simpa using h
end Rb
/-! Webs: ways, walks, folded and looped ones; two that keep the same are one. Plain Lean. -/
namespace Rb
set_option autoImplicit false
set_option linter.unusedVariables false
/-- a way: place, deed, place -/
abbrev Way := Nat × Fin 26 × Nat
def St (W : List Way) (p : Nat) (x : Lt) (q : Nat) : Prop := if x.u = true then (q, x.d, p) ∈ W else (p, x.d, q) ∈ W
theorem St.back {W : List Way} {p q : Nat} {x : Lt} (h : St W p x q) : St W q x.inv p := by
  unfold St at *
  cases e : x.u with
  | true => simp [e, Lt.inv] at h ⊢; exact h
  | false => simp [e, Lt.inv] at h ⊢; exact h
def Walk (W : List Way) : Nat → Row → Nat → Prop
  | p, [], q => p = q
  | p, x :: w, q => ∃ m, St W p x m ∧ Walk W m w q
theorem walk_nil {W : List Way} {p q : Nat} : Walk W p [] q ↔ p = q := Iff.rfl
theorem walk_append {W : List Way} : ∀ {a b : Row} {p q : Nat}, Walk W p (a ++ b) q ↔ ∃ m, Walk W p a m ∧ Walk W m b q
  | [], b, p, q => ⟨fun h => ⟨p, rfl, h⟩, fun ⟨m, e, h⟩ => by cases e; exact h⟩
  | x :: a, b, p, q => by
    constructor
    · rintro ⟨m, h1, h2⟩
      obtain ⟨n, h3, h4⟩ := walk_append.mp h2
      exact ⟨n, ⟨m, h1, h3⟩, h4⟩
    · rintro ⟨n, ⟨m, h1, h3⟩, h4⟩
      exact ⟨m, h1, walk_append.mpr ⟨n, h3, h4⟩⟩
theorem walk_one {W : List Way} {p q : Nat} {x : Lt} : Walk W p [x] q ↔ St W p x q :=
  ⟨fun ⟨m, h, e⟩ => by cases e; exact h, fun h => ⟨q, h, rfl⟩⟩
theorem walk_snoc {W : List Way} {p q : Nat} {a : Row} {x : Lt} : Walk W p (a ++ [x]) q ↔ ∃ m, Walk W p a m ∧ St W m x q := by
  rw [walk_append]
  exact ⟨fun ⟨m, h, k⟩ => ⟨m, h, walk_one.mp k⟩, fun ⟨m, h, k⟩ => ⟨m, h, walk_one.mpr k⟩⟩
theorem Walk.back {W : List Way} : ∀ {w : Row} {p q : Nat}, Walk W p w q → Walk W q (invR w) p
  | [], p, q, h => h.symm
  | x :: w, p, q, ⟨m, h1, h2⟩ => by
    rw [invR_cons]
    exact walk_snoc.mpr ⟨m, Walk.back h2, h1.back⟩
theorem walk_sub {W V : List Way} (h : ∀ p x q, St W p x q → St V p x q) : ∀ {w : Row} {p q : Nat}, Walk W p w q → Walk V p w q
  | [], _, _, e => e
  | _ :: _, _, _, ⟨m, h1, h2⟩ => ⟨m, h _ _ _ h1, walk_sub h h2⟩
/-- no deed leads from one place to two, or from two to one -/
def Det (W : List Way) : Prop := ∀ p x q q', St W p x q → St W p x q' → q = q'
theorem Det.walk {W : List Way} (D : Det W) : ∀ {w : Row} {p q q' : Nat}, Walk W p w q → Walk W p w q' → q = q'
  | [], _, _, _, e, f => e.symm.trans f
  | _ :: _, _, _, _, ⟨m, h1, h2⟩, ⟨n, k1, k2⟩ => by
    have e := D _ _ _ _ h1 k1
    subst e
    exact Det.walk D h2 k2
theorem walk_stack {W : List Way} (D : Det W) : ∀ {r s : Row} {p q : Nat}, Walk W p (s.reverse ++ r) q → Walk W p (run s r).reverse q
  | [], s, p, q, h => by rw [run_nil]; simpa using h
  | x :: r, s, p, q, h => by
    rw [run_cons]
    apply walk_stack D
    cases s with
    | nil => simpa [push] using h
    | cons y s =>
      by_cases e : y = x.inv
      · have e1 : push (y :: s) x = s := by simp [push, e]
        rw [e1]
        rw [List.reverse_cons, List.append_assoc] at h
        obtain ⟨m, h1, h2⟩ := walk_append.mp h
        obtain ⟨n, h3, o, h4, h5⟩ := h2
        have hb := h3.back
        rw [e, Lt.inv_inv] at hb
        have en := D _ _ _ _ h4 hb
        subst en
        exact walk_append.mpr ⟨_, h1, h5⟩
      · have e1 : push (y :: s) x = x :: y :: s := by simp [push, e]
        rw [e1, List.reverse_cons, List.append_assoc]
        exact h
theorem Walk.net {W : List Way} (D : Det W) {r : Row} {p q : Nat} (h : Walk W p r q) : Walk W p (net r) q :=
  walk_stack D (s := []) (by simpa using h)
/-- each way is one of a net that leads the base to the base -/
def Looped (W : List Way) (b : Nat) : Prop := ∀ p x q, St W p x q → ∃ u v, Red (u ++ x :: v) ∧ Walk W b u p ∧ Walk W q v b
theorem looped_ext {W : List Way} {b p : Nat} {w : Row} (L : Looped W b) (hr : Red w) (h : Walk W b w p) : ∃ v, Red (w ++ v) ∧ Walk W p v b := by
  rcases List.eq_nil_or_concat w with e | ⟨w', y, e⟩
  · subst e
    cases h
    exact ⟨[], trivial, rfl⟩
  · rw [List.concat_eq_append] at e
    subst e
    obtain ⟨m, h1, h2⟩ := walk_snoc.mp h
    obtain ⟨u, v, hr2, _, h4⟩ := L _ _ _ h2
    refine ⟨v, ?_, h4⟩
    rw [List.append_assoc]
    exact red_glue hr (Red.right hr2)
/-- the two keep the same -/
def Alike (W : List Way) (b : Nat) (W' : List Way) (b' : Nat) : Prop := ∀ w, Red w → (Walk W b w b ↔ Walk W' b' w b')
theorem Alike.symm {W W' : List Way} {b b' : Nat} (A : Alike W b W' b') : Alike W' b' W b := fun w h => (A w h).symm
theorem alike_some {W W' : List Way} {b b' p : Nat} {w : Row} (L : Looped W b) (A : Alike W b W' b') (hr : Red w) (h : Walk W b w p) : ∃ q, Walk W' b' w q := by
  obtain ⟨v, h1, h2⟩ := looped_ext L hr h
  have h3 := (A _ h1).mp (walk_append.mpr ⟨p, h, h2⟩)
  obtain ⟨q, h4, _⟩ := walk_append.mp h3
  exact ⟨q, h4⟩
/-- the places to which the same nets lead -/
def Rho (W : List Way) (b : Nat) (W' : List Way) (b' : Nat) (p q : Nat) : Prop := ∃ w, Red w ∧ Walk W b w p ∧ Walk W' b' w q
theorem Rho.base (W : List Way) (b : Nat) (W' : List Way) (b' : Nat) : Rho W b W' b' b b' := ⟨[], trivial, rfl, rfl⟩
theorem Rho.symm {W W' : List Way} {b b' p q : Nat} (h : Rho W b W' b' p q) : Rho W' b' W b q p := by
  obtain ⟨w, h1, h2, h3⟩ := h
  exact ⟨w, h1, h3, h2⟩
theorem rho_fun {W W' : List Way} {b b' p q q' : Nat} (D : Det W) (D' : Det W') (A : Alike W b W' b') (h : Rho W b W' b' p q) (k : Rho W b W' b' p q') : q = q' := by
  obtain ⟨u, hu, u1, u2⟩ := h
  obtain ⟨v, hv, v1, v2⟩ := k
  have h1 : Walk W b (net (u ++ invR v)) b := Walk.net D (walk_append.mpr ⟨p, u1, v1.back⟩)
  have h2 := (A _ (red_net _)).mp h1
  have h3 : Walk W' b' (net (u ++ invR v) ++ v) q' := walk_append.mpr ⟨b', h2, v2⟩
  have h4 := Walk.net D' h3
  rw [net_net_left] at h4
  have e : net (u ++ invR v ++ v) = net u := by
    have := net_word u (invR v) []
    rw [invR_invR] at this
    simpa using this
  rw [e, net_red hu] at h4
  exact Det.walk D' u2 h4
theorem rho_step {W W' : List Way} {b b' p q p' : Nat} {x : Lt} (D : Det W) (D' : Det W') (L : Looped W b) (A : Alike W b W' b') (h : Rho W b W' b' p q) (k : St W p x p') :
    ∃ q', St W' q x q' ∧ Rho W b W' b' p' q' := by
  obtain ⟨w, hr, h1, h2⟩ := h
  by_cases hl : ∃ y, w.getLast? = some y ∧ y = x.inv
  · obtain ⟨y, hy, e⟩ := hl
    obtain ⟨w', rfl⟩ : ∃ w', w = w' ++ [y] := by
      rcases List.eq_nil_or_concat w with z | ⟨w', y', z⟩
      · subst z; simp at hy
      · rw [List.concat_eq_append] at z
        subst z
        simp at hy
        subst hy
        exact ⟨w', rfl⟩
    subst e
    obtain ⟨m, m1, m2⟩ := walk_snoc.mp h1
    obtain ⟨n, n1, n2⟩ := walk_snoc.mp h2
    have m3 := m2.back
    rw [Lt.inv_inv] at m3
    have n3 := n2.back
    rw [Lt.inv_inv] at n3
    have e := D _ _ _ _ k m3
    subst e
    exact ⟨n, n3, w', hr.left, m1, n1⟩
  · have hr2 : Red (w ++ [x]) := red_snoc hr fun y hy e => hl ⟨y, hy, e⟩
    have h3 : Walk W b (w ++ [x]) p' := walk_snoc.mpr ⟨p, h1, k⟩
    obtain ⟨q', h4⟩ := alike_some L A hr2 h3
    obtain ⟨n, n1, n2⟩ := walk_snoc.mp h4
    have e := Det.walk D' n1 h2
    subst e
    exact ⟨q', n2, w ++ [x], hr2, h3, h4⟩

/-! ### the places in the order in which they are met -/
def rowOf (δ : Lt → Option Nat) (ls : List Lt) (Q : List Nat) : List Nat :=
  ls.foldl (fun Q x => match δ x with
    | some g => if g ∈ Q then Q else Q ++ [g]
    | none => Q) Q
inductive Bfs (δ : Nat → Lt → Option Nat) (ls : List Lt) : Nat → List Nat → List Nat → Prop
  | done {i : Nat} {Q : List Nat} : Q.length ≤ i → Bfs δ ls i Q Q
  | more {i p : Nat} {Q R : List Nat} : Q[i]? = some p → Bfs δ ls (i + 1) (rowOf (δ p) ls Q) R → Bfs δ ls i Q R
/-- δ tells the steps of the ways -/
def Fits (W : List Way) (δ : Nat → Lt → Option Nat) : Prop := ∀ p x q, δ p x = some q ↔ St W p x q
/-- lists of places that answer one another -/
inductive Pairs (ρ : Nat → Nat → Prop) : List Nat → List Nat → Prop
  | nil : Pairs ρ [] []
  | cons {a b : Nat} {as bs : List Nat} : ρ a b → Pairs ρ as bs → Pairs ρ (a :: as) (b :: bs)
theorem Pairs.length {ρ : Nat → Nat → Prop} : ∀ {as bs : List Nat}, Pairs ρ as bs → as.length = bs.length
  | _, _, .nil => rfl
  | _, _, .cons _ h => by simp [Pairs.length h]
theorem Pairs.snoc {ρ : Nat → Nat → Prop} {a b : Nat} (h : ρ a b) : ∀ {as bs : List Nat}, Pairs ρ as bs → Pairs ρ (as ++ [a]) (bs ++ [b])
  | _, _, .nil => .cons h .nil
  | _, _, .cons k t => .cons k (Pairs.snoc h t)
theorem Pairs.get {ρ : Nat → Nat → Prop} : ∀ {as bs : List Nat} {i a : Nat}, Pairs ρ as bs → as[i]? = some a → ∃ b, bs[i]? = some b ∧ ρ a b
  | _, _, i, a, .nil, h => by simp at h
  | _, _, 0, a, .cons k t, h => by
    simp at h
    subst h
    exact ⟨_, rfl, k⟩
  | _, _, i + 1, a, .cons k t, h => by
    obtain ⟨b, h1, h2⟩ := Pairs.get (i := i) t (by simpa using h)
    exact ⟨b, by simpa using h1, h2⟩
theorem Pairs.flip {ρ σ : Nat → Nat → Prop} (f : ∀ a b, ρ a b → σ b a) : ∀ {as bs : List Nat}, Pairs ρ as bs → Pairs σ bs as
  | _, _, .nil => .nil
  | _, _, .cons k t => .cons (f _ _ k) (Pairs.flip f t)
theorem Pairs.mem {ρ : Nat → Nat → Prop} {as bs : List Nat} {a b : Nat} (inj : ∀ a b b', ρ a b → ρ a b' → b = b') (P : Pairs ρ as bs) (h : ρ a b) (ha : a ∈ as) : b ∈ bs := by
  obtain ⟨i, hi⟩ := List.mem_iff_getElem?.mp ha
  obtain ⟨c, hc, k⟩ := P.get hi
  have e := inj _ _ _ h k
  subst e
  exact List.mem_iff_getElem?.mpr ⟨i, hc⟩
section
variable {ρ : Nat → Nat → Prop} {δ δ' : Nat → Lt → Option Nat}
/-- ρ is one to one -/
structure OneOne (ρ : Nat → Nat → Prop) : Prop where
  r : ∀ a b b', ρ a b → ρ a b' → b = b'
  l : ∀ a a' b, ρ a b → ρ a' b → a = a'
/-- what answers one another steps likewise -/
def Bis (ρ : Nat → Nat → Prop) (δ δ' : Nat → Lt → Option Nat) : Prop := ∀ p q x, ρ p q → match δ p x, δ' q x with
  | none, none => True
  | some p', some q' => ρ p' q'
  | _, _ => False
theorem rowOf_pairs (O : OneOne ρ) (B : Bis ρ δ δ') {p q : Nat} (h : ρ p q) : ∀ (ls : List Lt) {Q Q' : List Nat}, Pairs ρ Q Q' → Pairs ρ (rowOf (δ p) ls Q) (rowOf (δ' q) ls Q')
  | [], _, _, P => P
  | x :: ls, Q, Q', P => by
    have b := B p q x h
    unfold rowOf
    rw [List.foldl_cons, List.foldl_cons]
    refine rowOf_pairs O B h ls ?_
    cases e1 : δ p x with
    | none =>
      cases e2 : δ' q x with
      | none => simpa using P
      | some q' => rw [e1, e2] at b; exact b.elim
    | some p' =>
      cases e2 : δ' q x with
      | none => rw [e1, e2] at b; exact b.elim
      | some q' =>
        rw [e1, e2] at b
        have b' : ρ p' q' := b
        have P' : Pairs (fun a b => ρ b a) Q' Q := P.flip fun _ _ h => h
        by_cases hp : p' ∈ Q
        · have hq : q' ∈ Q' := P.mem O.r b' hp
          simp [hp, hq]
          exact P
        · have hq : ¬ q' ∈ Q' := fun z => hp (P'.mem (fun a b b' h k => O.l b b' a h k) b' z)
          simp [hp, hq]
          exact P.snoc b'
theorem bfs_pairs (O : OneOne ρ) (B : Bis ρ δ δ') {ls : List Lt} {i : Nat} {Q R : List Nat} (h : Bfs δ ls i Q R) : ∀ {Q' R' : List Nat}, Pairs ρ Q Q' → Bfs δ' ls i Q' R' → Pairs ρ R R' := by
  induction h with
  | done hl =>
    intro Q' R' P h'
    cases h' with
    | done _ => exact P
    | more hg _ =>
      have := P.length
      obtain ⟨hlt, _⟩ := List.getElem?_eq_some_iff.mp hg
      omega
  | more hg _ ih =>
    intro Q' R' P h'
    cases h' with
    | done hl =>
      have := P.length
      obtain ⟨hlt, _⟩ := List.getElem?_eq_some_iff.mp hg
      omega
    | more hg' h' =>
      obtain ⟨q, k1, k2⟩ := P.get hg
      rw [hg'] at k1
      cases k1
      exact ih (rowOf_pairs O B k2 ls P) h'
end
theorem rowOf_sub {δ : Lt → Option Nat} : ∀ {ls : List Lt} {Q : List Nat} {p : Nat}, p ∈ Q → p ∈ rowOf δ ls Q
  | [], _, _, h => h
  | x :: ls, Q, p, h => by
    unfold rowOf
    rw [List.foldl_cons]
    refine rowOf_sub (ls := ls) ?_
    cases e : δ x with
    | none => simpa using h
    | some g =>
      by_cases hg : g ∈ Q
      · simp [hg, h]
      · simp [hg]; exact .inl h
theorem rowOf_has {δ : Lt → Option Nat} : ∀ {ls : List Lt} {Q : List Nat} {x : Lt} {g : Nat}, x ∈ ls → δ x = some g → g ∈ rowOf δ ls Q
  | [], _, _, _, h, _ => by simp at h
  | y :: ls, Q, x, g, h, e => by
    unfold rowOf
    rw [List.foldl_cons]
    rcases List.mem_cons.mp h with rfl | h
    · refine rowOf_sub (ls := ls) ?_
      rw [e]
      by_cases hg : g ∈ Q
      · simp [hg]
      · simp [hg]
    · exact rowOf_has (ls := ls) h e
theorem rowOf_nodup {δ : Lt → Option Nat} : ∀ {ls : List Lt} {Q : List Nat}, Q.Nodup → (rowOf δ ls Q).Nodup
  | [], _, h => h
  | y :: ls, Q, h => by
    unfold rowOf
    rw [List.foldl_cons]
    refine rowOf_nodup (ls := ls) ?_
    cases e : δ y with
    | none => simpa using h
    | some g =>
      by_cases hg : g ∈ Q
      · simp [hg, h]
      · simp only [if_neg hg]
        rw [List.nodup_append]
        refine ⟨h, by simp, ?_⟩
        intro a ha b hb eab
        simp at hb
        subst hb
        subst eab
        exact hg ha
theorem rowOf_mem {δ : Lt → Option Nat} : ∀ {ls : List Lt} {Q : List Nat} {g : Nat}, g ∈ rowOf δ ls Q → g ∈ Q ∨ ∃ x ∈ ls, δ x = some g
  | [], _, _, h => .inl h
  | y :: ls, Q, g, h => by
    unfold rowOf at h
    rw [List.foldl_cons] at h
    rcases rowOf_mem (ls := ls) h with h | ⟨x, h1, h2⟩
    · cases e : δ y with
      | none => rw [e] at h; exact .inl (by simpa using h)
      | some k =>
        rw [e] at h
        by_cases hk : k ∈ Q
        · simp [hk] at h; exact .inl h
        · simp [hk] at h
          rcases h with h | h
          · exact .inl h
          · subst h; exact .inr ⟨y, by simp, e⟩
    · exact .inr ⟨x, List.mem_cons_of_mem _ h1, h2⟩
theorem rowOf_pre {δ : Lt → Option Nat} : ∀ {ls : List Lt} {Q : List Nat}, ∃ T, rowOf δ ls Q = Q ++ T
  | [], Q => ⟨[], by simp [rowOf]⟩
  | y :: ls, Q => by
    unfold rowOf
    rw [List.foldl_cons]
    cases e : δ y with
    | none => exact rowOf_pre (ls := ls) (Q := Q)
    | some g =>
      by_cases hg : g ∈ Q
      · simp only [if_pos hg]
        exact rowOf_pre (ls := ls) (Q := Q)
      · simp only [if_neg hg]
        obtain ⟨T, hT⟩ := rowOf_pre (δ := δ) (ls := ls) (Q := Q ++ [g])
        refine ⟨g :: T, ?_⟩
        unfold rowOf at hT
        rw [hT]
        simp
/-- behind the search: nothing twice, what was there is there, all letters lead into it -/
theorem bfs_end {δ : Nat → Lt → Option Nat} {ls : List Lt} {i : Nat} {Q R : List Nat} (h : Bfs δ ls i Q R) :
    Q.Nodup → (∀ j p x g, j < i → Q[j]? = some p → x ∈ ls → δ p x = some g → g ∈ Q) →
    R.Nodup ∧ (∀ p, p ∈ Q → p ∈ R) ∧ (∃ T, R = Q ++ T) ∧ ∀ p x g, p ∈ R → x ∈ ls → δ p x = some g → g ∈ R := by
  induction h with
  | @done i Q hl =>
    intro hn hc
    refine ⟨hn, fun _ h => h, ⟨[], by simp⟩, ?_⟩
    intro p x g hp hx hd
    obtain ⟨j, hj⟩ := List.mem_iff_getElem?.mp hp
    obtain ⟨hlt, _⟩ := List.getElem?_eq_some_iff.mp hj
    exact hc j p x g (by omega) hj hx hd
  | @more i p Q R hg _ ih =>
    intro hn hc
    obtain ⟨T, hT⟩ := rowOf_pre (δ := δ p) (ls := ls) (Q := Q)
    have hi : i < Q.length := (List.getElem?_eq_some_iff.mp hg).1
    have h1 := ih (rowOf_nodup hn) (by
      intro j p' x g hj hg' hx hd
      have hj2 : j < Q.length := by omega
      have hg2 : Q[j]? = some p' := by
        rw [hT, List.getElem?_append_left hj2] at hg'
        exact hg'
      by_cases e : j = i
      · subst e
        rw [hg] at hg2
        cases hg2
        exact rowOf_has hx hd
      · exact rowOf_sub (hc j p' x g (by omega) hg2 hx hd))
    obtain ⟨r1, r2, ⟨T2, r3⟩, r4⟩ := h1
    refine ⟨r1, fun p hp => r2 p (rowOf_sub hp), ⟨T ++ T2, ?_⟩, r4⟩
    rw [r3, hT]
    simp
end Rb
/-! Numbered webs: two that keep the same are the very same. Plain Lean. -/
namespace Rb
set_option autoImplicit false
set_option linter.unusedVariables false
/-- ways in the order of Python's tuples -/
def wle (a b : Way) : Bool := decide (a.1 < b.1 ∨ (a.1 = b.1 ∧ (a.2.1 < b.2.1 ∨ (a.2.1 = b.2.1 ∧ a.2.2 ≤ b.2.2))))
theorem wle_trans (a b c : Way) (h : wle a b = true) (k : wle b c = true) : wle a c = true := by
  obtain ⟨p, d, q⟩ := a
  obtain ⟨p', d', q'⟩ := b
  obtain ⟨p'', d'', q''⟩ := c
  simp only [wle, decide_eq_true_eq] at *
  omega
theorem wle_total (a b : Way) : (wle a b || wle b a) = true := by
  obtain ⟨p, d, q⟩ := a
  obtain ⟨p', d', q'⟩ := b
  simp only [wle, Bool.or_eq_true, decide_eq_true_eq]
  omega
theorem wle_anti (a b : Way) (h : wle a b = true) (k : wle b a = true) : a = b := by
  obtain ⟨p, d, q⟩ := a
  obtain ⟨p', d', q'⟩ := b
  simp only [wle, decide_eq_true_eq] at *
  have h1 : p = p' := by omega
  have h2 : d = d' := by omega
  have h3 : q = q' := by omega
  subst h1; subst h2; subst h3
  rfl
def wsort (l : List Way) : List Way := l.mergeSort wle
theorem mem_wsort {l : List Way} {w : Way} : w ∈ wsort l ↔ w ∈ l := (List.mergeSort_perm l wle).mem_iff
theorem wsort_length (l : List Way) : (wsort l).length = l.length := (List.mergeSort_perm l wle).length_eq
theorem wsort_sorted (l : List Way) : (wsort l).Pairwise (fun a b => wle a b = true) := List.pairwise_mergeSort wle_trans wle_total l
theorem wsort_perm {l m : List Way} (h : l.Perm m) : wsort l = wsort m := by
  refine List.Perm.eq_of_pairwise (le := fun a b => wle a b = true) (fun a b _ _ h k => wle_anti a b h k) (wsort_sorted l) (wsort_sorted m) ?_
  exact (List.mergeSort_perm l wle).trans (h.trans (List.mergeSort_perm m wle).symm)
theorem wsort_idem {l : List Way} (h : l.Pairwise (fun a b => wle a b = true)) : wsort l = l :=
  List.Perm.eq_of_pairwise (le := fun a b => wle a b = true) (fun a b _ _ h k => wle_anti a b h k) (wsort_sorted l) h (List.mergeSort_perm l wle)
theorem nodup_wsort {l : List Way} (h : l.Nodup) : (wsort l).Nodup := (List.mergeSort_perm l wle).nodup_iff.mpr h

/-- the ways between places of Q, by their numbers in Q -/
def numb (Q : List Nat) (W : List Way) : List Way := (W.filter (fun w => decide (w.1 ∈ Q))).map (fun w => (Q.idxOf w.1, w.2.1, Q.idxOf w.2.2))
theorem idx_get {Q : List Nat} {p : Nat} (h : p ∈ Q) : Q[Q.idxOf p]? = some p := by
  have hl := List.idxOf_lt_length_iff.mpr h
  rw [List.getElem?_eq_getElem hl]
  simp
theorem idx_of {Q : List Nat} (hn : Q.Nodup) {i p : Nat} (h : Q[i]? = some p) : Q.idxOf p = i := by
  obtain ⟨hl, e⟩ := List.getElem?_eq_some_iff.mp h
  rw [← e]
  exact hn.idxOf_getElem i hl
/-- Q is closed under the ways -/
def Closed (Q : List Nat) (W : List Way) : Prop := ∀ p x q, p ∈ Q → St W p x q → q ∈ Q
theorem mem_numb {Q : List Nat} {W : List Way} (hn : Q.Nodup) (hc : Closed Q W) {i j : Nat} {d : Fin 26} :
    (i, d, j) ∈ numb Q W ↔ ∃ p q, Q[i]? = some p ∧ Q[j]? = some q ∧ (p, d, q) ∈ W := by
  unfold numb
  simp only [List.mem_map, List.mem_filter, decide_eq_true_eq]
  constructor
  · rintro ⟨⟨p, d', q⟩, ⟨h1, h2⟩, h3⟩
    simp only [Prod.mk.injEq] at h3
    obtain ⟨e1, e2, e3⟩ := h3
    subst e1; subst e2; subst e3
    have hq : q ∈ Q := hc p ⟨d', false⟩ q h2 (by simpa [St] using h1)
    exact ⟨p, q, idx_get h2, idx_get hq, h1⟩
  · rintro ⟨p, q, h1, h2, h3⟩
    refine ⟨(p, d, q), ⟨h3, List.mem_of_getElem? h1⟩, ?_⟩
    simp only [Prod.mk.injEq]
    exact ⟨idx_of hn h1, trivial, idx_of hn h2⟩
theorem nodup_map_on {α β : Type} {f : α → β} : ∀ {l : List α}, (∀ a ∈ l, ∀ b ∈ l, f a = f b → a = b) → l.Nodup → (l.map f).Nodup
  | [], _, _ => by simp
  | a :: l, hf, h => by
    rw [List.map_cons, List.nodup_cons]
    rw [List.nodup_cons] at h
    refine ⟨?_, nodup_map_on (fun x hx y hy => hf x (List.mem_cons_of_mem _ hx) y (List.mem_cons_of_mem _ hy)) h.2⟩
    intro hm
    obtain ⟨b, hb, e⟩ := List.mem_map.mp hm
    have := hf b (List.mem_cons_of_mem _ hb) a List.mem_cons_self e
    subst this
    exact h.1 hb
theorem numb_nodup {Q : List Nat} {W : List Way} (hn : Q.Nodup) (hc : Closed Q W) (hw : W.Nodup) : (numb Q W).Nodup := by
  unfold numb
  refine nodup_map_on ?_ (hw.filter _)
  rintro ⟨p, d, q⟩ h1 ⟨p', d', q'⟩ h2 e
  simp only [List.mem_filter, decide_eq_true_eq] at h1 h2
  simp only [Prod.mk.injEq] at e
  obtain ⟨e1, e2, e3⟩ := e
  subst e2
  have hq : q ∈ Q := hc p ⟨d, false⟩ q h1.2 (by simpa [St] using h1.1)
  have hq' : q' ∈ Q := hc p' ⟨d, false⟩ q' h2.2 (by simpa [St] using h2.1)
  have a1 := idx_get h1.2
  have a2 := idx_get h2.2
  rw [e1, a2] at a1
  have b1 := idx_get hq
  have b2 := idx_get hq'
  rw [e3, b2] at b1
  cases a1
  cases b1
  rfl
theorem st_numb {Q : List Nat} {W : List Way} (hn : Q.Nodup) (hc : Closed Q W) {i j : Nat} {x : Lt} :
    St (numb Q W) i x j ↔ ∃ p q, Q[i]? = some p ∧ Q[j]? = some q ∧ St W p x q := by
  unfold St
  cases x.u with
  | true =>
    simp only [if_pos]
    rw [mem_numb hn hc]
    exact ⟨fun ⟨p, q, a, b, c⟩ => ⟨q, p, b, a, c⟩, fun ⟨p, q, a, b, c⟩ => ⟨q, p, b, a, c⟩⟩
  | false =>
    simp only [Bool.false_eq_true, if_neg, not_false_eq_true, if_false]
    rw [mem_numb hn hc]
theorem st_wsort {W : List Way} {p q : Nat} {x : Lt} : St (wsort W) p x q ↔ St W p x q := by
  unfold St
  cases x.u <;> simp [mem_wsort]
/-- what folding and numbering ask of ways that are to be numbered from b on -/
structure Right (ls : List Lt) (W : List Way) (b : Nat) : Prop where
  det : Det W
  loop : Looped W b
  nd : W.Nodup
  lets : ∀ p x q, St W p x q → x ∈ ls
theorem closed_of {ls : List Lt} {W : List Way} {b : Nat} {δ : Nat → Lt → Option Nat} {Q : List Nat} (R : Right ls W b) (F : Fits W δ) (B : Bfs δ ls 0 [b] Q) : Q.Nodup ∧ b ∈ Q ∧ Q[0]? = some b ∧ Closed Q W := by
  obtain ⟨h1, h2, ⟨T, h3⟩, h4⟩ := bfs_end B (by simp) (by intro j p x g hj; omega)
  refine ⟨h1, h2 b (by simp), by rw [h3]; rfl, ?_⟩
  intro p x q hp hs
  exact h4 p x q hp (R.lets _ _ _ hs) ((F p x q).mpr hs)
/-- THE FOURTH FACT: two right lots of ways that keep the same are numbered alike -/
theorem numbered_alike {ls : List Lt} {W W' : List Way} {b b' : Nat} {δ δ' : Nat → Lt → Option Nat} {Q Q' : List Nat} (R : Right ls W b) (R' : Right ls W' b') (A : Alike W b W' b')
    (F : Fits W δ) (F' : Fits W' δ') (B : Bfs δ ls 0 [b] Q) (B' : Bfs δ' ls 0 [b'] Q') : Q.length = Q'.length ∧ wsort (numb Q W) = wsort (numb Q' W') := by
  have O : OneOne (Rho W b W' b') := ⟨fun a c c' h k => rho_fun R.det R'.det A h k, fun a a' c h k => rho_fun R'.det R.det A.symm h.symm k.symm⟩
  have S : Bis (Rho W b W' b') δ δ' := by
    intro p q x h
    cases e : δ p x with
    | none =>
      cases e' : δ' q x with
      | none => trivial
      | some q' =>
        obtain ⟨p', h1, _⟩ := rho_step R'.det R.det R'.loop A.symm h.symm ((F' q x q').mp e')
        rw [(F p x p').mpr h1] at e
        cases e
    | some p' =>
      obtain ⟨q', h1, h2⟩ := rho_step R.det R'.det R.loop A h ((F p x p').mp e)
      rw [(F' q x q').mpr h1]
      exact h2
  have P := bfs_pairs O S B (.cons (Rho.base W b W' b') .nil) B'
  obtain ⟨n1, _, _, c1⟩ := closed_of R F B
  obtain ⟨n2, _, _, c2⟩ := closed_of R' F' B'
  refine ⟨P.length, wsort_perm ?_⟩
  rw [List.perm_ext_iff_of_nodup (numb_nodup n1 c1 R.nd) (numb_nodup n2 c2 R'.nd)]
  rintro ⟨i, d, j⟩
  rw [mem_numb n1 c1, mem_numb n2 c2]
  constructor
  · rintro ⟨p, q, h1, h2, h3⟩
    obtain ⟨p', k1, r1⟩ := P.get h1
    obtain ⟨q', k2, r2⟩ := P.get h2
    obtain ⟨q'', s1, s2⟩ := rho_step (x := ⟨d, false⟩) R.det R'.det R.loop A r1 (by simpa [St] using h3)
    have e := O.r _ _ _ s2 r2
    subst e
    exact ⟨p', q'', k1, k2, by simpa [St] using s1⟩
  · rintro ⟨p, q, h1, h2, h3⟩
    have P' : Pairs (Rho W' b' W b) Q' Q := P.flip fun _ _ h => h.symm
    obtain ⟨p', k1, r1⟩ := P'.get h1
    obtain ⟨q', k2, r2⟩ := P'.get h2
    obtain ⟨q'', s1, s2⟩ := rho_step (x := ⟨d, false⟩) R'.det R.det R'.loop A.symm r1 (by simpa [St] using h3)
    have e := O.l _ _ _ s2.symm r2.symm
    subst e
    exact ⟨p', q'', k1, k2, by simpa [St] using s1⟩
/-- a web: the number of its places, its ways ascending -/
structure WebD where
  size : Nat
  ways : List Way
  deriving DecidableEq
def webOf (Q : List Nat) (W : List Way) : WebD := ⟨Q.length, wsort (numb Q W)⟩
/-- the web leads as the ways do -/
theorem walk_web {ls : List Lt} {W : List Way} {b : Nat} {δ : Nat → Lt → Option Nat} {Q : List Nat} (R : Right ls W b) (F : Fits W δ) (B : Bfs δ ls 0 [b] Q) :
    ∀ {w : Row} {p q i : Nat}, Q[i]? = some p → Walk W p w q → ∃ j, Q[j]? = some q ∧ Walk (webOf Q W).ways i w j
  | [], p, q, i, h, e => ⟨i, e ▸ h, rfl⟩
  | x :: w, p, q, i, h, ⟨m, h1, h2⟩ => by
    obtain ⟨n1, _, _, c1⟩ := closed_of R F B
    have hm : m ∈ Q := c1 p x m (List.mem_of_getElem? h) h1
    obtain ⟨k, hk⟩ := List.mem_iff_getElem?.mp hm
    obtain ⟨j, h3, h4⟩ := walk_web R F B hk h2
    exact ⟨j, h3, k, st_wsort.mpr ((st_numb n1 c1).mpr ⟨p, m, h, hk, h1⟩), h4⟩
theorem walk_unweb {ls : List Lt} {W : List Way} {b : Nat} {δ : Nat → Lt → Option Nat} {Q : List Nat} (R : Right ls W b) (F : Fits W δ) (B : Bfs δ ls 0 [b] Q) :
    ∀ {w : Row} {i j p : Nat}, Q[i]? = some p → Walk (webOf Q W).ways i w j → ∃ q, Q[j]? = some q ∧ Walk W p w q
  | [], i, j, p, h, e => ⟨p, e ▸ h, rfl⟩
  | x :: w, i, j, p, h, ⟨m, h1, h2⟩ => by
    obtain ⟨n1, _, _, c1⟩ := closed_of R F B
    obtain ⟨p', q', e1, e2, h3⟩ := (st_numb n1 c1).mp (st_wsort.mp h1)
    rw [h] at e1
    cases e1
    obtain ⟨q, h4, h5⟩ := walk_unweb R F B e2 h2
    exact ⟨q, h4, q', h3, h5⟩
theorem web_det {ls : List Lt} {W : List Way} {b : Nat} {δ : Nat → Lt → Option Nat} {Q : List Nat} (R : Right ls W b) (F : Fits W δ) (B : Bfs δ ls 0 [b] Q) : Det (webOf Q W).ways := by
  obtain ⟨n1, _, _, c1⟩ := closed_of R F B
  intro i x j j' h k
  obtain ⟨p, q, a1, a2, a3⟩ := (st_numb n1 c1).mp (st_wsort.mp h)
  obtain ⟨p', q', b1, b2, b3⟩ := (st_numb n1 c1).mp (st_wsort.mp k)
  rw [a1] at b1
  cases b1
  have e := R.det _ _ _ _ a3 b3
  subst e
  rw [← idx_of n1 a2, idx_of n1 b2]
theorem web_keeps {ls : List Lt} {W : List Way} {b : Nat} {δ : Nat → Lt → Option Nat} {Q : List Nat} (R : Right ls W b) (F : Fits W δ) (B : Bfs δ ls 0 [b] Q) (w : Row) :
    Walk (webOf Q W).ways 0 w 0 ↔ Walk W b w b := by
  obtain ⟨n1, _, z, c1⟩ := closed_of R F B
  constructor
  · intro h
    obtain ⟨q, h1, h2⟩ := walk_unweb R F B z h
    rw [z] at h1
    cases h1
    exact h2
  · intro h
    obtain ⟨j, h1, h2⟩ := walk_web R F B z h
    have e1 := idx_of n1 h1
    have e2 := idx_of n1 z
    rw [e2] at e1
    subst e1
    exact h2
end Rb
/-! Rows laid as rings, places made one, folded ways. Plain Lean. -/
namespace Rb
set_option autoImplicit false
set_option linter.unusedVariables false
abbrev Arr := Nat × Lt × Nat
def fwd1 (a : Arr) : Way := if a.2.1.u = true then (a.2.2, a.2.1.d, a.1) else (a.1, a.2.1.d, a.2.2)
def fwd (A : List Arr) : List Way := A.map fwd1
theorem lt_eta (x : Lt) : (⟨x.d, x.u⟩ : Lt) = x := rfl
theorem st_fwd {A : List Arr} {p q : Nat} {x : Lt} : St (fwd A) p x q ↔ (p, x, q) ∈ A ∨ (q, x.inv, p) ∈ A := by
  have key : ∀ (p q : Nat) (d : Fin 26), (p, d, q) ∈ fwd A ↔ (p, ⟨d, false⟩, q) ∈ A ∨ (q, ⟨d, true⟩, p) ∈ A := by
    intro p q d
    unfold fwd
    rw [List.mem_map]
    constructor
    · rintro ⟨⟨a, ⟨e, u⟩, b⟩, h1, h2⟩
      cases u with
      | true =>
        simp [fwd1] at h2
        obtain ⟨e1, e2, e3⟩ := h2
        subst e1; subst e2; subst e3
        exact .inr h1
      | false =>
        simp [fwd1] at h2
        obtain ⟨e1, e2, e3⟩ := h2
        subst e1; subst e2; subst e3
        exact .inl h1
    · rintro (h | h)
      · exact ⟨_, h, by simp [fwd1]⟩
      · exact ⟨_, h, by simp [fwd1]⟩
  obtain ⟨d, u⟩ := x
  cases u with
  | true =>
    simp only [St, if_pos, Lt.inv, Bool.not_true]
    rw [key]
    exact Or.comm
  | false =>
    simp only [St, Bool.false_eq_true, if_false, Lt.inv, Bool.not_false]
    rw [key]
/-- the arrows of a row from a place to a place, over new places -/
def chainA (first last fresh : Nat) : Row → List Arr
  | [] => []
  | [x] => [(first, x, last)]
  | x :: y :: r => (first, x, fresh) :: chainA fresh last (fresh + 1) (y :: r)
def laid : Nat → List Row → List Arr
  | _, [] => []
  | fresh, r :: rs => chainA 0 0 fresh (net r) ++ laid (fresh + (net r).length) rs
def laidMany : Nat → List Row → Nat
  | fresh, [] => fresh
  | fresh, r :: rs => laidMany (fresh + (net r).length) rs
theorem chain_walk {last : Nat} : ∀ {r : Row} {first fresh : Nat} {W : List Way}, r ≠ [] → (∀ p x q, (p, x, q) ∈ chainA first last fresh r → St W p x q) → Walk W first r last
  | [], _, _, _, h, _ => absurd rfl h
  | [x], first, fresh, W, _, h => ⟨last, h _ _ _ (by simp [chainA]), rfl⟩
  | x :: y :: r, first, fresh, W, _, h =>
    ⟨fresh, h _ _ _ (by simp [chainA]), chain_walk (r := y :: r) (by simp) fun p z q hm => h p z q (by simp only [chainA]; exact List.mem_cons_of_mem _ hm)⟩
theorem chain_split {last : Nat} : ∀ {r : Row} {first fresh : Nat} {W : List Way} {p q : Nat} {x : Lt}, (p, x, q) ∈ chainA first last fresh r → (∀ p x q, (p, x, q) ∈ chainA first last fresh r → St W p x q) →
    ∃ u v, r = u ++ x :: v ∧ Walk W first u p ∧ Walk W q v last
  | [], _, _, _, _, _, _, h, _ => by simp [chainA] at h
  | [x], first, fresh, W, p, q, z, h, k => by
    simp only [chainA, List.mem_singleton, Prod.mk.injEq] at h
    obtain ⟨e1, e2, e3⟩ := h
    subst e1; subst e2; subst e3
    exact ⟨[], [], rfl, rfl, rfl⟩
  | x :: y :: r, first, fresh, W, p, q, z, h, k => by
    simp only [chainA] at h
    rcases List.mem_cons.mp h with h | h
    · simp only [Prod.mk.injEq] at h
      obtain ⟨e1, e2, e3⟩ := h
      subst e1; subst e2; subst e3
      exact ⟨[], y :: r, rfl, rfl, chain_walk (by simp) fun a b c hm => k a b c (by simp only [chainA]; exact List.mem_cons_of_mem _ hm)⟩
    · obtain ⟨u, v, e, h1, h2⟩ := chain_split (r := y :: r) (W := W) h fun a b c hm => k a b c (by simp only [chainA]; exact List.mem_cons_of_mem _ hm)
      exact ⟨x :: u, v, by rw [e]; rfl, ⟨fresh, k _ _ _ (by simp [chainA]), h1⟩, h2⟩
theorem chain_lt : ∀ {r : Row} {first last fresh n : Nat}, first < n → last < n → fresh + r.length ≤ n + 1 → ∀ {p q : Nat} {x : Lt}, (p, x, q) ∈ chainA first last fresh r → p < n ∧ q < n ∧ x ∈ r
  | [], _, _, _, _, _, _, _, _, _, _, h => by simp [chainA] at h
  | [x], first, last, fresh, n, h1, h2, _, p, q, z, h => by
    simp only [chainA, List.mem_singleton, Prod.mk.injEq] at h
    obtain ⟨e1, e2, e3⟩ := h
    subst e1; subst e2; subst e3
    exact ⟨h1, h2, by simp⟩
  | x :: y :: r, first, last, fresh, n, h1, h2, h3, p, q, z, h => by
    simp only [chainA] at h
    simp only [List.length_cons] at h3
    rcases List.mem_cons.mp h with h | h
    · simp only [Prod.mk.injEq] at h
      obtain ⟨e1, e2, e3⟩ := h
      subst e1; subst e2; subst e3
      exact ⟨h1, by omega, by simp⟩
    · obtain ⟨a, b, c⟩ := chain_lt (r := y :: r) (n := n) (by omega) h2 (by simp only [List.length_cons]; omega) h
      exact ⟨a, b, List.mem_cons_of_mem _ c⟩
theorem laidMany_le : ∀ {rs : List Row} {fresh : Nat}, fresh ≤ laidMany fresh rs
  | [], _ => Nat.le_refl _
  | r :: rs, fresh => Nat.le_trans (Nat.le_add_right _ _) (laidMany_le (rs := rs))
theorem laid_lt : ∀ {rs : List Row} {fresh : Nat}, 0 < fresh → ∀ {p q : Nat} {x : Lt}, (p, x, q) ∈ laid fresh rs → p < laidMany fresh rs ∧ q < laidMany fresh rs ∧ ∃ r ∈ rs, x ∈ net r
  | [], _, _, _, _, _, h => by simp [laid] at h
  | r :: rs, fresh, hf, p, q, x, h => by
    simp only [laid, List.mem_append] at h
    have hle : fresh + (net r).length ≤ laidMany (fresh + (net r).length) rs := laidMany_le
    rcases h with h | h
    · obtain ⟨a, b, c⟩ := chain_lt (n := laidMany (fresh + (net r).length) rs) (by omega) (by omega) (by omega) h
      exact ⟨a, b, r, by simp, c⟩
    · obtain ⟨a, b, s, hs, c⟩ := laid_lt (rs := rs) (by omega) h
      exact ⟨a, b, s, List.mem_cons_of_mem _ hs, c⟩
/-- each row is read from 0 to 0; each arrow is one of a row -/
theorem laid_walk {W : List Way} : ∀ {rs : List Row} {fresh : Nat}, (∀ p x q, (p, x, q) ∈ laid fresh rs → St W p x q) → ∀ r ∈ rs, Walk W 0 (net r) 0
  | [], _, _, r, h => by simp at h
  | s :: rs, fresh, k, r, h => by
    rcases List.mem_cons.mp h with h | h
    · subst h
      by_cases e : net r = []
      · rw [e]; exact rfl
      · exact chain_walk e fun p x q hm => k p x q (by simp only [laid, List.mem_append]; exact .inl hm)
    · exact laid_walk (rs := rs) (fun p x q hm => k p x q (by simp only [laid, List.mem_append]; exact .inr hm)) r h
theorem laid_split {W : List Way} : ∀ {rs : List Row} {fresh : Nat}, (∀ p x q, (p, x, q) ∈ laid fresh rs → St W p x q) → ∀ {p q : Nat} {x : Lt}, (p, x, q) ∈ laid fresh rs →
    ∃ u v, Red (u ++ x :: v) ∧ Walk W 0 u p ∧ Walk W q v 0
  | [], _, _, _, _, _, h => by simp [laid] at h
  | s :: rs, fresh, k, p, q, x, h => by
    simp only [laid, List.mem_append] at h
    rcases h with h | h
    · obtain ⟨u, v, e, h1, h2⟩ := chain_split (W := W) h fun p x q hm => k p x q (by simp only [laid, List.mem_append]; exact .inl hm)
      exact ⟨u, v, by rw [← e]; exact red_net s, h1, h2⟩
    · exact laid_split (rs := rs) (fun p x q hm => k p x q (by simp only [laid, List.mem_append]; exact .inr hm)) h
/-! ### a word for each place -/
/-- f labels the arrows: each leads from its first place's lot to its last one's -/
def Lab (G : List Row) (f : Nat → Row) (A : List Arr) : Prop := ∀ p x q, (p, x, q) ∈ A → Cos G (f p ++ [x]) (f q)
theorem chain_lab {G : List Row} {f : Nat → Row} : ∀ {r : Row} {first last fresh : Nat} {u : Row}, Cos G (f first) u → Cos G (u ++ r) (f last) → (∀ i, i + 1 < r.length → f (fresh + i) = u ++ r.take (i + 1)) →
    Lab G f (chainA first last fresh r)
  | [], _, _, _, _, _, _, _ => by intro p x q h; simp [chainA] at h
  | [x], first, last, fresh, u, h1, h2, _ => by
    intro p z q h
    simp only [chainA, List.mem_singleton, Prod.mk.injEq] at h
    obtain ⟨e1, e2, e3⟩ := h
    subst e1; subst e2; subst e3
    exact (h1.right [z]).trans h2
  | x :: y :: r, first, last, fresh, u, h1, h2, h3 => by
    have h0 : f fresh = u ++ [x] := h3 0 (by simp)
    intro p z q h
    simp only [chainA] at h
    rcases List.mem_cons.mp h with h | h
    · simp only [Prod.mk.injEq] at h
      obtain ⟨e1, e2, e3⟩ := h
      subst e1; subst e2; subst e3
      rw [h0]
      exact h1.right [z]
    · refine chain_lab (r := y :: r) (u := u ++ [x]) (by rw [h0]; exact Cos.refl _ _) (by simpa using h2) ?_ p z q h
      intro i hi
      have := h3 (i + 1) (by simp only [List.length_cons] at hi ⊢; omega)
      rw [show fresh + 1 + i = fresh + (i + 1) by omega, this]
      simp
def labels : Nat → List Row → Nat → Row
  | _, [], _ => []
  | fresh, r :: rs, i => if i < fresh + (net r).length then (if fresh ≤ i then (net r).take (i - fresh + 1) else []) else labels (fresh + (net r).length) rs i
theorem labels_low : ∀ {rs : List Row} {fresh i : Nat}, i < fresh → labels fresh rs i = []
  | [], _, _, _ => rfl
  | r :: rs, fresh, i, h => by
    simp only [labels]
    rw [if_pos (by omega), if_neg (by omega)]
theorem labels_lab {G : List Row} : ∀ {rs : List Row} {fresh : Nat} {f : Nat → Row}, 0 < fresh → (∀ r ∈ rs, r ∈ G) → f 0 = [] → (∀ i, fresh ≤ i → f i = labels fresh rs i) → Lab G f (laid fresh rs)
  | [], _, _, _, _, _, _ => by intro p x q h; simp [laid] at h
  | r :: rs, fresh, f, hf, hm, h0, hl => by
    intro p x q h
    simp only [laid, List.mem_append] at h
    rcases h with h | h
    · refine chain_lab (u := []) (by rw [h0]; exact Cos.refl _ _) ?_ ?_ p x q h
      · rw [h0]
        unfold Cos
        simp only [List.nil_append, invR_nil, List.append_nil]
        exact gen_net.mpr (Gen.mem (hm r (by simp)))
      · intro i hi
        rw [hl _ (by omega)]
        simp only [labels]
        rw [if_pos (by omega), if_pos (by omega), Nat.add_sub_cancel_left]
        rfl
    · refine labels_lab (rs := rs) (by omega) (fun r hr => hm r (List.mem_cons_of_mem _ hr)) h0 ?_ p x q h
      intro i hi
      rw [hl i (by omega)]
      simp only [labels]
      rw [if_neg (by omega)]
theorem lab_fwd {G : List Row} {f : Nat → Row} {A : List Arr} (L : Lab G f A) {p q : Nat} {x : Lt} (h : St (fwd A) p x q) : Cos G (f p ++ [x]) (f q) := by
  rcases st_fwd.mp h with h | h
  · exact L _ _ _ h
  · have h2 := (L _ _ _ h).right [x]
    have e : f q ++ [x.inv] ++ [x] = f q ++ [x.inv, x.inv.inv] := by rw [Lt.inv_inv]; simp
    rw [e] at h2
    have h3 : Cos G (f q) (f q ++ [x.inv, x.inv.inv]) := by
      have h4 := Gen.undo (Gen.put (R := G) (a := f q) (w := [x.inv]) (b := invR (f q)) (Cos.refl G (f q)))
      have e3 : invR (f q ++ ([x.inv] ++ (invR [x.inv] ++ invR (f q)))) = f q ++ invR (f q ++ [x.inv, x.inv.inv]) := by
        simp only [invR_append, invR_cons, invR_nil, invR_invR, Lt.inv_inv]
        simp
      rw [e3] at h4
      exact h4
    exact (h3.trans h2).symm
/-! ### places made one -/
structure Roots (R : Nat → Nat) : Prop where
  idem : ∀ i, R (R i) = R i
  le : ∀ i, R i ≤ i
def joinR (R : Nat → Nat) (a b : Nat) : Nat → Nat := fun i => if R i = max (R a) (R b) then min (R a) (R b) else R i
theorem joinR_same {R : Nat → Nat} {a b : Nat} (h : R a = R b) : joinR R a b = R := by
  funext i
  unfold joinR
  rw [h, Nat.max_self, Nat.min_self]
  split
  · rename_i e; exact e.symm
  · rfl
theorem joinR_roots {R : Nat → Nat} (a b : Nat) (h : Roots R) : Roots (joinR R a b) := by
  have hm : R (min (R a) (R b)) = min (R a) (R b) := by
    rcases Nat.le_total (R a) (R b) with e | e
    · rw [Nat.min_eq_left e]; exact h.idem a
    · rw [Nat.min_eq_right e]; exact h.idem b
  constructor
  · intro i
    unfold joinR
    by_cases e : R i = max (R a) (R b)
    · rw [if_pos e, hm]
      split
      · rfl
      · rfl
    · rw [if_neg e, h.idem i, if_neg e]
  · intro i
    have hi := h.le i
    unfold joinR
    by_cases e : R i = max (R a) (R b)
    · rw [if_pos e]; omega
    · rw [if_neg e]; exact hi
theorem joinR_meet {R : Nat → Nat} (a b : Nat) : joinR R a b a = joinR R a b b := by
  unfold joinR
  rcases Nat.le_total (R a) (R b) with e | e
  · rw [Nat.min_eq_left e, Nat.max_eq_right e]
    by_cases z : R a = R b
    · rw [if_pos z, if_pos rfl]
    · rw [if_neg z, if_pos rfl]
  · rw [Nat.min_eq_right e, Nat.max_eq_left e]
    by_cases z : R b = R a
    · rw [if_pos rfl, if_pos z]
    · rw [if_pos rfl, if_neg z]
/-- S makes one whatever R does -/
def Coarse (R S : Nat → Nat) : Prop := ∀ i, S (R i) = S i
theorem Coarse.refl {R : Nat → Nat} (h : Roots R) : Coarse R R := h.idem
theorem Coarse.trans {R S T : Nat → Nat} (h : Coarse R S) (k : Coarse S T) : Coarse R T := by
  intro i
  rw [← k (R i), h i, k i]
theorem joinR_coarse {R : Nat → Nat} (a b : Nat) (h : Roots R) : Coarse R (joinR R a b) := by
  intro i
  unfold joinR
  rw [h.idem i]
/-- how many of the first n places are heads -/
def heads (R : Nat → Nat) (n : Nat) : Nat := ((List.range n).filter (fun i => decide (R i = i))).length
theorem filter_len_lt {α : Type} {p q : α → Bool} : ∀ {l : List α}, (∀ a ∈ l, p a = true → q a = true) → (∃ a ∈ l, q a = true ∧ p a = false) → (l.filter p).length < (l.filter q).length
  | [], _, ⟨a, h, _⟩ => by simp at h
  | a :: l, hs, ⟨b, hb, hq, hp⟩ => by
    have hle : ∀ (l : List α), (∀ a ∈ l, p a = true → q a = true) → (l.filter p).length ≤ (l.filter q).length := by
      intro l
      induction l with
      | nil => intro _; simp
      | cons c l ih =>
        intro h
        have ih' := ih fun a ha => h a (List.mem_cons_of_mem _ ha)
        rw [List.filter_cons, List.filter_cons]
        cases e : p c with
        | true => rw [h c List.mem_cons_self e]; simp; exact ih'
        | false => cases q c <;> simp <;> omega
    have h1 := hle l fun a ha => hs a (List.mem_cons_of_mem _ ha)
    rw [List.filter_cons, List.filter_cons]
    rcases List.mem_cons.mp hb with e | hb
    · subst e
      rw [hp, hq]
      simp
      omega
    · have h2 := filter_len_lt (l := l) (fun a ha => hs a (List.mem_cons_of_mem _ ha)) ⟨b, hb, hq, hp⟩
      cases e : p a with
      | true => rw [hs a List.mem_cons_self e]; simp; omega
      | false => cases q a <;> simp <;> omega
theorem joinR_heads {R : Nat → Nat} {a b n : Nat} (h : Roots R) (ha : a < n) (hb : b < n) (hne : R a ≠ R b) : heads (joinR R a b) n < heads R n := by
  have la := h.le a
  have lb := h.le b
  unfold heads
  refine filter_len_lt ?_ ⟨max (R a) (R b), ?_, ?_, ?_⟩
  · intro i _ hi
    simp only [decide_eq_true_eq] at hi ⊢
    unfold joinR at hi
    by_cases e : R i = max (R a) (R b)
    · rw [if_pos e] at hi
      have hi2 := h.le i
      omega
    · rwa [if_neg e] at hi
  · rw [List.mem_range]; omega
  · simp only [decide_eq_true_eq]
    rcases Nat.le_total (R a) (R b) with e | e
    · rw [Nat.max_eq_right e]; exact h.idem b
    · rw [Nat.max_eq_left e]; exact h.idem a
  · have hmx : R (max (R a) (R b)) = max (R a) (R b) := by
      rcases Nat.le_total (R a) (R b) with e | e
      · rw [Nat.max_eq_right e]; exact h.idem b
      · rw [Nat.max_eq_left e]; exact h.idem a
    simp only [decide_eq_false_iff_not]
    unfold joinR
    rw [if_pos hmx]
    omega
/-- what is one is of one lot -/
def Snd (G : List Row) (f : Nat → Row) (R : Nat → Nat) : Prop := ∀ i, Cos G (f i) (f (R i))
theorem joinR_snd {G : List Row} {f : Nat → Row} {R : Nat → Nat} {a b : Nat} (h : Snd G f R) (k : Cos G (f a) (f b)) : Snd G f (joinR R a b) := by
  intro i
  have hab : Cos G (f (R a)) (f (R b)) := (h a).symm.trans (k.trans (h b))
  unfold joinR
  by_cases e : R i = max (R a) (R b)
  · rw [if_pos e]
    refine (h i).trans ?_
    rw [e]
    rcases Nat.le_total (R a) (R b) with z | z
    · rw [Nat.max_eq_right z, Nat.min_eq_left z]; exact hab.symm
    · rw [Nat.max_eq_left z, Nat.min_eq_right z]; exact hab
  · rw [if_neg e]; exact h i
/-! ### one pass over the ways -/
abbrev Tab := List ((Nat × Fin 26) × Nat)
def look (t : Tab) (k : Nat × Fin 26) : Option Nat := (t.find? (fun e => decide (e.1 = k))).map (·.2)
def setd (t : Tab) (k : Nat × Fin 26) (v : Nat) : Tab := match look t k with
  | some _ => t
  | none => t ++ [(k, v)]
theorem look_mem {t : Tab} {k : Nat × Fin 26} {v : Nat} (h : look t k = some v) : (k, v) ∈ t := by
  unfold look at h
  cases e : t.find? (fun e => decide (e.1 = k)) with
  | none => rw [e] at h; simp at h
  | some z =>
    rw [e] at h
    simp at h
    have h1 := List.find?_some e
    have h2 := List.mem_of_find?_eq_some e
    simp at h1
    obtain ⟨z1, z2⟩ := z
    simp at h1 h
    subst h1; subst h
    exact h2
theorem look_snoc {t : Tab} {k k' : Nat × Fin 26} {v : Nat} (h : look t k = none) : look (t ++ [(k, v)]) k' = if k' = k then some v else look t k' := by
  unfold look at *
  rw [List.find?_append]
  by_cases e : k' = k
  · subst e
    rw [if_pos rfl]
    simp at h
    have : t.find? (fun e => decide (e.1 = k')) = none := by
      rw [List.find?_eq_none]
      intro x hx
      simp
      intro z
      exact h x.1.1 x.1.2 x.2 (by simpa using hx) z
    rw [this]
    simp
  · rw [if_neg e]
    cases z : t.find? (fun e => decide (e.1 = k')) with
    | some _ => simp
    | none =>
      simp
      exact fun q => e q.symm
theorem look_setd {t : Tab} {k k' : Nat × Fin 26} {v : Nat} : look (setd t k v) k' = if k' = k then some ((look t k).getD v) else look t k' := by
  unfold setd
  cases h : look t k with
  | some u =>
    simp only [Option.getD_some]
    by_cases e : k' = k
    · rw [if_pos e, e, h]
    · rw [if_neg e]
  | none =>
    simp only [Option.getD_none]
    exact look_snoc h
structure Pass where
  ch : Bool
  ah : Tab
  bh : Tab
  R : Nat → Nat
def turn (s : Pass) (w : Way) : Pass :=
  let u := (look s.ah (s.R w.1, w.2.1)).getD (s.R w.2.2)
  let R1 := joinR s.R u (s.R w.2.2)
  let c1 := s.ch || decide (s.R u ≠ s.R (s.R w.2.2))
  let v := (look s.bh (R1 w.2.2, w.2.1)).getD (R1 w.1)
  ⟨c1 || decide (R1 v ≠ R1 (R1 w.1)), setd s.ah (s.R w.1, w.2.1) (s.R w.2.2), setd s.bh (R1 w.2.2, w.2.1) (R1 w.1), joinR R1 v (R1 w.1)⟩
def pass (R : Nat → Nat) (ways : List Way) : Pass := ways.foldl turn ⟨false, [], [], R⟩
/-- f labels the ways -/
def LabW (G : List Row) (f : Nat → Row) (W : List Way) : Prop := ∀ p d q, (p, d, q) ∈ W → Cos G (f p ++ [⟨d, false⟩]) (f q)
/-- what holds between two turns; R0: as it was ahead of the pass -/
structure PassOk (G : List Row) (f : Nat → Row) (n : Nat) (R0 : Nat → Nat) (dn : List Way) (s : Pass) : Prop where
  roots : Roots s.R
  coarse : Coarse R0 s.R
  snd : Snd G f s.R
  ah : ∀ h d v, ((h, d), v) ∈ s.ah → Cos G (f h ++ [⟨d, false⟩]) (f v) ∧ v < n
  bh : ∀ h d v, ((h, d), v) ∈ s.bh → Cos G (f v ++ [⟨d, false⟩]) (f h) ∧ v < n
  still : s.ch = false → s.R = R0 ∧ (∀ k v, look s.ah k = some v → R0 v = v) ∧ (∀ k v, look s.bh k = some v → R0 v = v) ∧ ∀ p d q, (p, d, q) ∈ dn → look s.ah (R0 p, d) = some (R0 q) ∧ look s.bh (R0 q, d) = some (R0 p)
  fewer : s.ch = true → heads s.R n < heads R0 n
theorem cos_put {G : List Row} {f : Nat → Row} {R : Nat → Nat} (S : Snd G f R) {p q : Nat} {d : Fin 26} (h : Cos G (f p ++ [⟨d, false⟩]) (f q)) : Cos G (f (R p) ++ [⟨d, false⟩]) (f (R q)) :=
  ((S p).symm.right _).trans (h.trans (S q))
theorem turn_ok {G : List Row} {f : Nat → Row} {n : Nat} {R0 : Nat → Nat} (r0 : Roots R0) {dn : List Way} {s : Pass} (I : PassOk G f n R0 dn s) {w : Way} (hw : Cos G (f w.1 ++ [⟨w.2.1, false⟩]) (f w.2.2)) (h1 : w.1 < n) (h2 : w.2.2 < n) :
    PassOk G f n R0 (dn ++ [w]) (turn s w) := by
  obtain ⟨p, d, q⟩ := w
  simp only at hw h1 h2
  obtain ⟨ch, ah, bh, R⟩ := s
  obtain ⟨I1, I2, I3, I4, I5, I6, I7⟩ := I
  simp only at I1 I2 I3 I4 I5 I6 I7
  have c0 := cos_put I3 hw
  have lt1 : ∀ i, i < n → R i < n := fun i hi => Nat.lt_of_le_of_lt (I1.le i) hi
  -- the first join
  have hu : Cos G (f (R p) ++ [⟨d, false⟩]) (f ((look ah (R p, d)).getD (R q))) ∧ (look ah (R p, d)).getD (R q) < n := by
    cases e : look ah (R p, d) with
    | none => exact ⟨c0, lt1 q h2⟩
    | some u => exact I4 _ _ _ (look_mem e)
  generalize eu : (look ah (R p, d)).getD (R q) = u at hu
  have ju : Cos G (f u) (f (R q)) := hu.1.symm.trans c0
  have J1 : Roots (joinR R u (R q)) := joinR_roots _ _ I1
  have S1 : Snd G f (joinR R u (R q)) := joinR_snd I3 ju
  have C1 : Coarse R (joinR R u (R q)) := joinR_coarse _ _ I1
  have lt2 : ∀ i, i < n → joinR R u (R q) i < n := fun i hi => Nat.lt_of_le_of_lt (J1.le i) hi
  have z1 : R u ≠ R (R q) → heads (joinR R u (R q)) n < heads R n := fun hne => joinR_heads I1 hu.2 (lt1 q h2) hne
  have y1 : R u = R (R q) → joinR R u (R q) = R := fun e => joinR_same e
  generalize eR1 : joinR R u (R q) = R1 at *
  have c1 := cos_put S1 hw
  have hv : Cos G (f ((look bh (R1 q, d)).getD (R1 p)) ++ [⟨d, false⟩]) (f (R1 q)) ∧ (look bh (R1 q, d)).getD (R1 p) < n := by
    cases e : look bh (R1 q, d) with
    | none => exact ⟨c1, lt2 p h1⟩
    | some v => exact I5 _ _ _ (look_mem e)
  generalize ev : (look bh (R1 q, d)).getD (R1 p) = v at hv
  have jv : Cos G (f v) (f (R1 p)) := Cos.unright (hv.1.trans c1.symm)
  have J2 : Roots (joinR R1 v (R1 p)) := joinR_roots _ _ J1
  have S2 : Snd G f (joinR R1 v (R1 p)) := joinR_snd S1 jv
  have C2 : Coarse R1 (joinR R1 v (R1 p)) := joinR_coarse _ _ J1
  have z2 : R1 v ≠ R1 (R1 p) → heads (joinR R1 v (R1 p)) n < heads R1 n := fun hne => joinR_heads J1 hv.2 (lt2 p h1) hne
  have y2 : R1 v = R1 (R1 p) → joinR R1 v (R1 p) = R1 := fun e => joinR_same e
  have et : turn ⟨ch, ah, bh, R⟩ (p, d, q) = ⟨(ch || decide (R u ≠ R (R q))) || decide (R1 v ≠ R1 (R1 p)), setd ah (R p, d) (R q), setd bh (R1 q, d) (R1 p), joinR R1 v (R1 p)⟩ := by
    simp only [turn, eu, eR1, ev]
  rw [et]
  refine ⟨J2, I2.trans (C1.trans C2), S2, ?_, ?_, ?_, ?_⟩
  · intro h d' v' hm
    simp only [setd] at hm
    cases e : look ah (R p, d) with
    | some x => rw [e] at hm; exact I4 _ _ _ hm
    | none =>
      rw [e] at hm
      rcases List.mem_append.mp hm with hm | hm
      · exact I4 _ _ _ hm
      · simp at hm
        obtain ⟨⟨a, b⟩, c⟩ := hm
        subst a; subst b; subst c
        exact ⟨c0, lt1 q h2⟩
  · intro h d' v' hm
    simp only [setd] at hm
    cases e : look bh (R1 q, d) with
    | some x => rw [e] at hm; exact I5 _ _ _ hm
    | none =>
      rw [e] at hm
      rcases List.mem_append.mp hm with hm | hm
      · exact I5 _ _ _ hm
      · simp at hm
        obtain ⟨⟨a, b⟩, c⟩ := hm
        subst a; subst b; subst c
        exact ⟨c1, lt2 p h1⟩
  · intro hc
    simp only [Bool.or_eq_false_iff, decide_eq_false_iff_not, ne_eq, Decidable.not_not] at hc
    obtain ⟨⟨hc1, hc2⟩, hc3⟩ := hc
    obtain ⟨k1, k3, k4, k2⟩ := I6 hc1
    subst k1
    have eR : R1 = R := y1 hc2
    have e2 := y2 hc3
    subst eR
    have ru : R1 u = u := by
      rw [← eu]
      cases e : look ah (R1 p, d) with
      | none => exact I1.idem q
      | some x => exact k3 _ _ e
    have rv : R1 v = v := by
      rw [← ev]
      cases e : look bh (R1 q, d) with
      | none => exact I1.idem p
      | some x => exact k4 _ _ e
    have eu2 : u = R1 q := by rw [← ru, hc2, I1.idem]
    have ev2 : v = R1 p := by rw [← rv, hc3, I1.idem]
    refine ⟨e2, ?_, ?_, ?_⟩
    · intro k x hx
      rw [look_setd] at hx
      split at hx
      · rw [eu] at hx
        cases hx
        exact ru
      · exact k3 _ _ hx
    · intro k x hx
      rw [look_setd] at hx
      split at hx
      · rw [ev] at hx
        cases hx
        exact rv
      · exact k4 _ _ hx
    · intro p' d' q' hm
      rw [look_setd, look_setd]
      rcases List.mem_append.mp hm with hm | hm
      · obtain ⟨a1, a2⟩ := k2 _ _ _ hm
        constructor
        · split
          · rename_i e
            rw [← e, a1]
            rfl
          · exact a1
        · split
          · rename_i e
            rw [← e, a2]
            rfl
          · exact a2
      · simp only [List.mem_singleton, Prod.mk.injEq] at hm
        obtain ⟨a1, a2, a3⟩ := hm
        subst a1; subst a2; subst a3
        rw [if_pos rfl, if_pos rfl, eu, ev, eu2, ev2]
        exact ⟨rfl, rfl⟩
  · intro hc
    have g1 : heads R1 n ≤ heads R n := by
      by_cases e : R u = R (R q)
      · rw [y1 e]; exact Nat.le_refl _
      · exact Nat.le_of_lt (z1 e)
    have g2 : heads (joinR R1 v (R1 p)) n ≤ heads R1 n := by
      by_cases e : R1 v = R1 (R1 p)
      · rw [y2 e]; exact Nat.le_refl _
      · exact Nat.le_of_lt (z2 e)
    have g3 : heads R n ≤ heads R0 n := by
      cases e : ch with
      | true => exact Nat.le_of_lt (I7 e)
      | false => rw [(I6 e).1]; exact Nat.le_refl _
    show heads (joinR R1 v (R1 p)) n < heads R0 n
    cases e : ch with
    | true =>
      have := I7 e
      omega
    | false =>
      by_cases e1 : R u = R (R q)
      · by_cases e2 : R1 v = R1 (R1 p)
        · simp [e, e1, e2] at hc
        · have := z2 e2
          omega
      · have := z1 e1
        omega
theorem pass_go {G : List Row} {f : Nat → Row} {n : Nat} {R0 : Nat → Nat} (r0 : Roots R0) : ∀ {ways dn : List Way} {s : Pass}, PassOk G f n R0 dn s → LabW G f ways → (∀ w ∈ ways, w.1 < n ∧ w.2.2 < n) →
    PassOk G f n R0 (dn ++ ways) (ways.foldl turn s)
  | [], dn, s, I, _, _ => by simpa using I
  | w :: ways, dn, s, I, hl, hn => by
    have h1 := turn_ok r0 I (w := w) (hl w.1 w.2.1 w.2.2 (by simp)) (hn w (by simp)).1 (hn w (by simp)).2
    have h2 := pass_go r0 (ways := ways) h1 (fun p d q hm => hl p d q (List.mem_cons_of_mem _ hm)) (fun w hw => hn w (List.mem_cons_of_mem _ hw))
    rw [List.append_assoc] at h2
    exact h2
theorem pass_ok {G : List Row} {f : Nat → Row} {n : Nat} {R0 : Nat → Nat} (r0 : Roots R0) (S : Snd G f R0) {ways : List Way} (hl : LabW G f ways) (hn : ∀ w ∈ ways, w.1 < n ∧ w.2.2 < n) : PassOk G f n R0 ways (pass R0 ways) := by
  have h0 : PassOk G f n R0 [] ⟨false, [], [], R0⟩ := ⟨r0, Coarse.refl r0, S, by intro h d v hm; simp at hm, by intro h d v hm; simp at hm, fun _ => ⟨rfl, by intro k v h; simp [look] at h, by intro k v h; simp [look] at h, by intro p d q hm; simp at hm⟩, by intro h; simp at h⟩
  have := pass_go r0 (ways := ways) h0 hl hn
  simpa [pass] using this
/-! ### the unlike ways between heads -/
def imgW (R : Nat → Nat) (w : Way) : Way := (R w.1, w.2.1, R w.2.2)
def addNew (acc : List Way) (w : Way) : List Way := if w ∈ acc then acc else acc ++ [w]
def headWays (R : Nat → Nat) (ways : List Way) : List Way := (ways.map (imgW R)).foldl addNew []
theorem addNew_go : ∀ {ways acc : List Way}, acc.Nodup → (ways.foldl addNew acc).Nodup ∧ ∀ w, w ∈ ways.foldl addNew acc ↔ w ∈ acc ∨ w ∈ ways
  | [], acc, h => ⟨h, by simp⟩
  | v :: ways, acc, h => by
    have h1 : (addNew acc v).Nodup := by
      unfold addNew
      split
      · exact h
      · rename_i hn
        rw [List.nodup_append]
        refine ⟨h, by simp, ?_⟩
        intro a ha b hb e
        simp at hb
        subst hb; subst e
        exact hn ha
    obtain ⟨g1, g2⟩ := addNew_go (ways := ways) h1
    refine ⟨g1, ?_⟩
    intro w
    rw [List.foldl_cons, g2 w]
    unfold addNew
    split
    · rename_i hv
      constructor
      · rintro (h | h)
        · exact .inl h
        · exact .inr (List.mem_cons_of_mem _ h)
      · rintro (h | h)
        · exact .inl h
        · rcases List.mem_cons.mp h with h | h
          · subst h; exact .inl hv
          · exact .inr h
    · rw [List.mem_append, List.mem_singleton, List.mem_cons]
      constructor
      · rintro ((h | h) | h)
        · exact .inl h
        · exact .inr (.inl h)
        · exact .inr (.inr h)
      · rintro (h | h | h)
        · exact .inl (.inl h)
        · exact .inl (.inr h)
        · exact .inr h
theorem headWays_nodup (R : Nat → Nat) (ways : List Way) : (headWays R ways).Nodup := (addNew_go (by simp)).1
theorem mem_headWays {R : Nat → Nat} {ways : List Way} {w : Way} : w ∈ headWays R ways ↔ ∃ v ∈ ways, imgW R v = w := by
  unfold headWays
  rw [(addNew_go (by simp)).2 w]
  simp
theorem st_headWays {R : Nat → Nat} {ways : List Way} {p q : Nat} {x : Lt} : St (headWays R ways) p x q ↔ ∃ p0 q0, St ways p0 x q0 ∧ R p0 = p ∧ R q0 = q := by
  obtain ⟨d, u⟩ := x
  cases u with
  | true =>
    simp only [St, if_pos, mem_headWays]
    constructor
    · rintro ⟨⟨a, e, b⟩, h1, h2⟩
      simp only [imgW, Prod.mk.injEq] at h2
      obtain ⟨e1, e2, e3⟩ := h2
      subst e2
      exact ⟨b, a, h1, e3, e1⟩
    · rintro ⟨p0, q0, h1, h2, h3⟩
      exact ⟨_, h1, by simp only [imgW, h2, h3]⟩
  | false =>
    simp only [St, Bool.false_eq_true, if_false, mem_headWays]
    constructor
    · rintro ⟨⟨a, e, b⟩, h1, h2⟩
      simp only [imgW, Prod.mk.injEq] at h2
      obtain ⟨e1, e2, e3⟩ := h2
      subst e2
      exact ⟨a, b, h1, e1, e3⟩
    · rintro ⟨p0, q0, h1, h2, h3⟩
      exact ⟨_, h1, by simp only [imgW, h2, h3]⟩
/-! ### passes till nothing is joined -/
inductive Joined : (Nat → Nat) → List Way → (Nat → Nat) → Prop
  | done {R : Nat → Nat} {ways : List Way} : (pass R ways).ch = false → Joined R ways (pass R ways).R
  | more {R S : Nat → Nat} {ways : List Way} : (pass R ways).ch = true → Joined (pass R ways).R (headWays (pass R ways).R ways) S → Joined R ways S
theorem lab_head {G : List Row} {f : Nat → Row} {R : Nat → Nat} {ways : List Way} (S : Snd G f R) (h : LabW G f ways) : LabW G f (headWays R ways) := by
  intro p d q hm
  obtain ⟨⟨a, e, b⟩, h1, h2⟩ := mem_headWays.mp hm
  simp only [imgW, Prod.mk.injEq] at h2
  obtain ⟨e1, e2, e3⟩ := h2
  subst e1; subst e2; subst e3
  exact cos_put S (h _ _ _ h1)
theorem head_lt {R : Nat → Nat} {ways : List Way} {n : Nat} (r : Roots R) (h : ∀ w ∈ ways, w.1 < n ∧ w.2.2 < n) : ∀ w ∈ headWays R ways, w.1 < n ∧ w.2.2 < n := by
  intro w hm
  obtain ⟨v, h1, h2⟩ := mem_headWays.mp hm
  subst h2
  have := h v h1
  have a := r.le v.1
  have b := r.le v.2.2
  simp only [imgW]
  omega
theorem joined_end {G : List Row} {f : Nat → Row} {n : Nat} {R S : Nat → Nat} {ways : List Way} (J : Joined R ways S) : Roots R → Snd G f R → LabW G f ways → (∀ w ∈ ways, w.1 < n ∧ w.2.2 < n) →
    Roots S ∧ Coarse R S ∧ Snd G f S ∧ Det (headWays S ways) := by
  induction J with
  | @done R ways hc =>
    intro r s l b
    have P := pass_ok r s l b
    obtain ⟨h1, h2, h3, h4⟩ := P.still hc
    refine ⟨P.roots, P.coarse, P.snd, ?_⟩
    rw [h1]
    intro p x q q' hx hy
    obtain ⟨p0, q0, a1, a2, a3⟩ := st_headWays.mp hx
    obtain ⟨p1, q1, b1, b2, b3⟩ := st_headWays.mp hy
    obtain ⟨d, u⟩ := x
    cases u with
    | false =>
      have c1 := (h4 p0 d q0 (by simpa [St] using a1)).1
      have c2 := (h4 p1 d q1 (by simpa [St] using b1)).1
      rw [a2] at c1
      rw [b2, c1] at c2
      rw [← a3, ← b3]
      exact Option.some.inj c2
    | true =>
      have c1 := (h4 q0 d p0 (by simpa [St] using a1)).2
      have c2 := (h4 q1 d p1 (by simpa [St] using b1)).2
      rw [a2] at c1
      rw [b2, c1] at c2
      rw [← a3, ← b3]
      exact Option.some.inj c2
  | @more R S ways hc _ ih =>
    intro r s l b
    have P := pass_ok r s l b
    obtain ⟨h1, h2, h3, h4⟩ := ih P.roots P.snd (lab_head P.snd l) (head_lt P.roots b)
    refine ⟨h1, P.coarse.trans h2, h3, ?_⟩
    intro p x q q' hx hy
    have key : ∀ p x q, St (headWays S ways) p x q → St (headWays S (headWays (pass R ways).R ways)) p x q := by
      intro p x q h
      obtain ⟨p0, q0, a1, a2, a3⟩ := st_headWays.mp h
      exact st_headWays.mpr ⟨(pass R ways).R p0, (pass R ways).R q0, st_headWays.mpr ⟨p0, q0, a1, rfl, rfl⟩, by rw [h2, a2], by rw [h2, a3]⟩
    exact h4 _ _ _ _ (key _ _ _ hx) (key _ _ _ hy)
theorem net_inv (r : Row) : net (invR r) = invR (net r) := by
  have h1 := net_word (invR r) (net r) []
  simp only [List.append_nil] at h1
  have h2 : net (invR r ++ (net r ++ invR (net r))) = net (invR r ++ (r ++ invR (net r))) := by
    rw [← List.append_assoc, ← List.append_assoc, ← net_net_left, net_net_right, net_net_left]
  have h3 := net_word [] (invR r) (invR (net r))
  rw [invR_invR] at h3
  simp only [List.nil_append] at h3
  rw [← h1, h2, h3, net_red (red_inv (red_net r))]
/-! ### the web of rows -/
/-- w is the web that folding makes of the rows -/
def IsWeb (ls : List Lt) (rows : List Row) (w : WebD) : Prop :=
  ∃ (W : List Way) (b : Nat) (δ : Nat → Lt → Option Nat) (Q : List Nat), Right ls W b ∧ Fits W δ ∧ Bfs δ ls 0 [b] Q ∧ (∀ u, Red u → (Walk W b u b ↔ Gen rows u)) ∧ w = webOf Q W
theorem right_of_rows {ls : List Lt} {rows : List Row} {S : Nat → Nat} (hls : ∀ x ∈ ls, x.inv ∈ ls) (hr : ∀ r ∈ rows, ∀ x ∈ r, x ∈ ls) (J : Joined id (fwd (laid 1 rows)) S) :
    S 0 = 0 ∧ Right ls (headWays S (fwd (laid 1 rows))) 0 ∧ ∀ u, Red u → (Walk (headWays S (fwd (laid 1 rows))) 0 u 0 ↔ Gen rows u) := by
  have L : Lab rows (labels 1 rows) (laid 1 rows) := labels_lab (by omega) (fun r h => h) (labels_low (by omega)) fun i _ => rfl
  have LW : LabW rows (labels 1 rows) (fwd (laid 1 rows)) := fun p d q h => lab_fwd (x := ⟨d, false⟩) L (by simpa [St] using h)
  have B : ∀ w ∈ fwd (laid 1 rows), w.1 < laidMany 1 rows ∧ w.2.2 < laidMany 1 rows := by
    rintro ⟨p, d, q⟩ h
    have h2 : St (fwd (laid 1 rows)) p ⟨d, false⟩ q := by simpa [St] using h
    rcases st_fwd.mp h2 with h | h
    · obtain ⟨a, b, _⟩ := laid_lt (by omega) h
      exact ⟨a, b⟩
    · obtain ⟨a, b, _⟩ := laid_lt (by omega) h
      exact ⟨b, a⟩
  have r0 : Roots (id : Nat → Nat) := ⟨fun _ => rfl, fun _ => Nat.le_refl _⟩
  obtain ⟨h1, h2, h3, h4⟩ := joined_end (n := laidMany 1 rows) J r0 (fun i => Cos.refl _ _) LW B
  have s0 : S 0 = 0 := Nat.le_zero.mp (h1.le 0)
  have step : ∀ p x q, (p, x, q) ∈ laid 1 rows → St (headWays S (fwd (laid 1 rows))) (S p) x (S q) := fun p x q h => st_headWays.mpr ⟨p, q, st_fwd.mpr (.inl h), rfl, rfl⟩
  -- the image of a walk
  have img : ∀ {w : Row} {p q : Nat}, Walk (fwd (laid 1 rows)) p w q → Walk (headWays S (fwd (laid 1 rows))) (S p) w (S q) := by
    intro w
    induction w with
    | nil => intro p q h; rw [show p = q from h]; exact rfl
    | cons x w ih => intro p q ⟨m, a, b⟩; exact ⟨S m, st_headWays.mpr ⟨_, _, a, rfl, rfl⟩, ih b⟩
  have wk : ∀ r ∈ rows, Walk (headWays S (fwd (laid 1 rows))) 0 (net r) 0 := by
    intro r hr
    have := img (laid_walk (rs := rows) (fresh := 1) (W := fwd (laid 1 rows)) (fun p x q h => st_fwd.mpr (.inl h)) r hr)
    rwa [s0] at this
  refine ⟨s0, ⟨h4, ?_, headWays_nodup _ _, ?_⟩, ?_⟩
  · intro p x q h
    obtain ⟨p0, q0, a1, a2, a3⟩ := st_headWays.mp h
    rcases st_fwd.mp a1 with h | h
    · obtain ⟨u, v, c1, c2, c3⟩ := laid_split (rs := rows) (fresh := 1) (W := fwd (laid 1 rows)) (fun p x q h => st_fwd.mpr (.inl h)) h
      have d1 := img c2
      have d2 := img c3
      rw [s0, a2] at d1
      rw [s0, a3] at d2
      exact ⟨u, v, c1, d1, d2⟩
    · obtain ⟨u, v, c1, c2, c3⟩ := laid_split (rs := rows) (fresh := 1) (W := fwd (laid 1 rows)) (fun p x q h => st_fwd.mpr (.inl h)) h
      have d1 := (img c2).back
      have d2 := (img c3).back
      rw [s0, a3] at d1
      rw [s0, a2] at d2
      refine ⟨invR v, invR u, ?_, d2, d1⟩
      have e := red_inv c1
      rw [invR_append, invR_cons, Lt.inv_inv] at e
      simpa using e
  · intro p x q h
    obtain ⟨p0, q0, a1, _, _⟩ := st_headWays.mp h
    rcases st_fwd.mp a1 with h | h
    · obtain ⟨_, _, r, c1, c2⟩ := laid_lt (by omega) h
      exact hr r c1 x (mem_net c2)
    · obtain ⟨_, _, r, c1, c2⟩ := laid_lt (by omega) h
      have := hls _ (hr r c1 _ (mem_net c2))
      rwa [Lt.inv_inv] at this
  · have cw : ∀ {w : Row} {p q : Nat}, Walk (headWays S (fwd (laid 1 rows))) p w q → Cos rows (labels 1 rows p ++ w) (labels 1 rows q) := by
      intro w
      induction w with
      | nil => intro p q h; rw [show p = q from h, List.append_nil]; exact Cos.refl _ _
      | cons x w ih =>
        rintro p q ⟨m, a, b⟩
        obtain ⟨p0, q0, a1, a2, a3⟩ := st_headWays.mp a
        have c1 := lab_fwd L a1
        have c2 : Cos rows (labels 1 rows p ++ [x]) (labels 1 rows m) := by
          rw [← a2, ← a3]
          exact ((h3 p0).symm.right _).trans (c1.trans (h3 q0))
        have c3 := c2.right w
        rw [List.append_assoc] at c3
        exact c3.trans (ih b)
    intro u hu
    constructor
    · intro h
      have := cw h
      rw [labels_low (by omega)] at this
      simpa [Cos, invR_nil] using this
    · intro h
      have key : Walk (headWays S (fwd (laid 1 rows))) 0 (net u) 0 := by
        clear hu
        induction h with
        | nil => exact rfl
        | @row r w hr _ ih =>
          rw [← net_net_right, ← net_net_left]
          exact Walk.net h4 (walk_append.mpr ⟨0, wk r hr, ih⟩)
        | @inv r w hr _ ih =>
          have k1 := (wk r hr).back
          rw [← net_inv] at k1
          rw [← net_net_right, ← net_net_left]
          exact Walk.net h4 (walk_append.mpr ⟨0, k1, ih⟩)
        | @ins a b x _ ih =>
          have e := net_word a [x] b
          simp only [invR_cons, invR_nil, List.nil_append, List.singleton_append] at e
          rw [e]
          exact ih
        | @del a b x _ ih =>
          have e := net_word a [x] b
          simp only [invR_cons, invR_nil, List.nil_append, List.singleton_append] at e
          rw [e] at ih
          exact ih
      rwa [net_red hu] at key
/-- rows that make the same have one web -/
theorem isWeb_eq {ls : List Lt} {rows rows' : List Row} {w w' : WebD} (h : IsWeb ls rows w) (k : IsWeb ls rows' w') (e : ∀ u, Gen rows u ↔ Gen rows' u) : w = w' := by
  obtain ⟨W, b, δ, Q, h1, h2, h3, h4, h5⟩ := h
  obtain ⟨W', b', δ', Q', k1, k2, k3, k4, k5⟩ := k
  have A : Alike W b W' b' := fun u hu => (h4 u hu).trans ((e u).trans (k4 u hu).symm)
  obtain ⟨e1, e2⟩ := numbered_alike h1 k1 A h2 k2 h3 k3
  rw [h5, k5]
  unfold webOf
  rw [e1, e2]
theorem IsWeb.det {ls : List Lt} {rows : List Row} {w : WebD} (h : IsWeb ls rows w) : Det w.ways := by
  obtain ⟨W, b, δ, Q, h1, h2, h3, h4, h5⟩ := h
  rw [h5]
  exact web_det h1 h2 h3
/-- THE WEB KEEPS JUST WHAT THE ROWS MAKE -/
theorem IsWeb.keeps {ls : List Lt} {rows : List Row} {w : WebD} (h : IsWeb ls rows w) (u : Row) : Walk w.ways 0 (net u) 0 ↔ Gen rows u := by
  obtain ⟨W, b, δ, Q, h1, h2, h3, h4, h5⟩ := h
  rw [h5, web_keeps h1 h2 h3, h4 _ (red_net u), gen_net]
theorem isWeb_of {ls : List Lt} {rows : List Row} {S : Nat → Nat} {δ : Nat → Lt → Option Nat} {Q : List Nat} (hls : ∀ x ∈ ls, x.inv ∈ ls) (hr : ∀ r ∈ rows, ∀ x ∈ r, x ∈ ls) (J : Joined id (fwd (laid 1 rows)) S)
    (F : Fits (headWays S (fwd (laid 1 rows))) δ) (B : Bfs δ ls 0 [S 0] Q) : IsWeb ls rows (webOf Q (headWays S (fwd (laid 1 rows)))) := by
  obtain ⟨h1, h2, h3⟩ := right_of_rows hls hr J
  rw [h1] at B
  exact ⟨_, 0, δ, Q, h2, F, B, h3, rfl⟩
end Rb
/-! Steps as a table; what hangs together; tails. Plain Lean. -/
namespace Rb
set_option autoImplicit false
set_option linter.unusedVariables false
def put2 (δ : Nat → Lt → Option Nat) (p : Nat) (x : Lt) (q : Nat) : Nat → Lt → Option Nat := fun p' x' => if p' = p ∧ x' = x then some q else δ p' x'
def stepW (δ : Nat → Lt → Option Nat) (w : Way) : Nat → Lt → Option Nat := put2 (put2 δ w.1 ⟨w.2.1, false⟩ w.2.2) w.2.2 ⟨w.2.1, true⟩ w.1
def stepsD (W : List Way) : Nat → Lt → Option Nat := W.foldl stepW fun _ _ => none
theorem stepsD_snoc (W : List Way) (w : Way) : stepsD (W ++ [w]) = stepW (stepsD W) w := by
  unfold stepsD
  rw [List.foldl_append]
  rfl
theorem st_snoc {W : List Way} {w : Way} {p q : Nat} {x : Lt} : St (W ++ [w]) p x q ↔ St W p x q ∨ (w = (p, x.d, q) ∧ x.u = false) ∨ (w = (q, x.d, p) ∧ x.u = true) := by
  obtain ⟨d, u⟩ := x
  cases u with
  | true => simp [St, eq_comm]
  | false => simp [St, eq_comm]
theorem stepsD_sound : ∀ (W : List Way) {p q : Nat} {x : Lt}, stepsD W p x = some q → St W p x q := by
  intro W
  rcases List.eq_nil_or_concat W with e | ⟨V, w, e⟩
  · subst e
    intro p q x h
    simp [stepsD] at h
  · rw [List.concat_eq_append] at e
    subst e
    intro p q x h
    have ih := @stepsD_sound V
    rw [stepsD_snoc] at h
    unfold stepW put2 at h
    obtain ⟨a, d, b⟩ := w
    simp only at h
    rw [st_snoc]
    split at h
    · rename_i c
      obtain ⟨c1, c2⟩ := c
      subst c1; subst c2
      cases h
      exact .inr (.inr ⟨rfl, rfl⟩)
    · split at h
      · rename_i c
        obtain ⟨c1, c2⟩ := c
        subst c1; subst c2
        cases h
        exact .inr (.inl ⟨rfl, rfl⟩)
      · exact .inl (ih h)
termination_by W => W.length
decreasing_by
  subst e
  simp
theorem stepsD_some : ∀ (W : List Way) {p q : Nat} {x : Lt}, St W p x q → ∃ q', stepsD W p x = some q' := by
  intro W
  rcases List.eq_nil_or_concat W with e | ⟨V, w, e⟩
  · subst e
    intro p q x h
    unfold St at h
    split at h <;> simp at h
  · rw [List.concat_eq_append] at e
    subst e
    intro p q x h
    have ih := @stepsD_some V
    rw [stepsD_snoc]
    unfold stepW put2
    obtain ⟨a, d, b⟩ := w
    simp only
    split
    · exact ⟨_, rfl⟩
    · rename_i c1
      split
      · exact ⟨_, rfl⟩
      · rename_i c2
        rcases st_snoc.mp h with h | ⟨h1, h2⟩ | ⟨h1, h2⟩
        · exact ih h
        · exfalso
          simp only [Prod.mk.injEq] at h1
          obtain ⟨e1, e2, e3⟩ := h1
          apply c2
          refine ⟨e1.symm, ?_⟩
          cases x
          simp_all
        · exfalso
          simp only [Prod.mk.injEq] at h1
          obtain ⟨e1, e2, e3⟩ := h1
          apply c1
          refine ⟨e3.symm, ?_⟩
          cases x
          simp_all
termination_by W => W.length
decreasing_by
  subst e
  simp
theorem fits_steps {W : List Way} (D : Det W) : Fits W (stepsD W) := by
  intro p x q
  constructor
  · exact stepsD_sound W
  · intro h
    obtain ⟨q', h2⟩ := stepsD_some W h
    rw [h2, D _ _ _ _ h (stepsD_sound W h2)]
/-! ### what hangs together -/
def Adj (W : List Way) (p q : Nat) : Prop := ∃ x, St W p x q
theorem Adj.symm {W : List Way} {p q : Nat} (h : Adj W p q) : Adj W q p := let ⟨x, h⟩ := h; ⟨x.inv, h.back⟩
theorem adj_way {W : List Way} {w : Way} (h : w ∈ W) : Adj W w.1 w.2.2 := ⟨⟨w.2.1, false⟩, by simpa [St] using h⟩
theorem adj_of {W : List Way} {p q : Nat} (h : Adj W p q) : ∃ w ∈ W, (w.1 = p ∧ w.2.2 = q) ∨ (w.1 = q ∧ w.2.2 = p) := by
  obtain ⟨⟨d, u⟩, h⟩ := h
  cases u with
  | true => exact ⟨_, by simpa [St] using h, .inr ⟨rfl, rfl⟩⟩
  | false => exact ⟨_, by simpa [St] using h, .inl ⟨rfl, rfl⟩⟩
/-- each way hangs together with b -/
def Hangs (W : List Way) (b : Nat) : Prop := ∀ w ∈ W, ∃ u, Walk W b u w.1
theorem closed_walk {W : List Way} {S : Nat → Prop} (hc : ∀ p q, S p → Adj W p q → S q) : ∀ {u : Row} {p q : Nat}, S p → Walk W p u q → S q
  | [], _, _, h, e => e ▸ h
  | x :: u, p, q, h, ⟨m, h1, h2⟩ => closed_walk hc (hc p m h ⟨x, h1⟩) h2
theorem hangs_all {W : List Way} {b : Nat} {S : Nat → Prop} (H : Hangs W b) (h0 : S b) (hc : ∀ p q, S p → Adj W p q → S q) {w : Way} (hw : w ∈ W) : S w.1 := by
  obtain ⟨u, hu⟩ := H w hw
  exact closed_walk hc h0 hu
theorem looped_hangs {W : List Way} {b : Nat} (L : Looped W b) : Hangs W b := by
  rintro ⟨p, d, q⟩ hw
  obtain ⟨u, _, _, h, _⟩ := L p ⟨d, false⟩ q (by simpa [St] using hw)
  exact ⟨u, h⟩
/-! ### tails -/
def endsOf (W : List Way) (p : Nat) : Nat := W.foldl (fun n w => n + (if w.1 = p then 1 else 0) + (if w.2.2 = p then 1 else 0)) 0
theorem ends_go (W : List Way) (p n : Nat) : W.foldl (fun n w => n + (if w.1 = p then 1 else 0) + (if w.2.2 = p then 1 else 0)) n = n + endsOf W p := by
  induction W generalizing n with
  | nil => simp [endsOf]
  | cons w W ih =>
    unfold endsOf
    rw [List.foldl_cons, List.foldl_cons, ih, ih]
    omega
theorem ends_snoc (W : List Way) (w : Way) (p : Nat) : endsOf (W ++ [w]) p = endsOf W p + (if w.1 = p then 1 else 0) + (if w.2.2 = p then 1 else 0) := by
  unfold endsOf
  rw [List.foldl_append]
  rfl
theorem ends_cons (W : List Way) (w : Way) (p : Nat) : endsOf (w :: W) p = (if w.1 = p then 1 else 0) + (if w.2.2 = p then 1 else 0) + endsOf W p := by
  show List.foldl _ _ _ = _
  rw [List.foldl_cons, ends_go]
  omega
theorem ends_pos {W : List Way} {w : Way} (h : w ∈ W) : (w.1 = w.2.2 → 2 ≤ endsOf W w.1) ∧ 1 ≤ endsOf W w.1 ∧ 1 ≤ endsOf W w.2.2 := by
  induction W with
  | nil => simp at h
  | cons v W ih =>
    rw [ends_cons, ends_cons]
    rcases List.mem_cons.mp h with e | h
    · subst e
      refine ⟨fun e => ?_, ?_, ?_⟩
      · rw [if_pos rfl, if_pos e.symm]; omega
      · rw [if_pos rfl]; omega
      · rw [if_pos rfl]; omega
    · obtain ⟨h1, h2, h3⟩ := ih h
      exact ⟨fun e => by have := h1 e; omega, by omega, by omega⟩
theorem ends_two {W : List Way} {v w : Way} {p : Nat} (hv : v ∈ W) (hw : w ∈ W) (hne : v ≠ w) (h1 : v.1 = p ∨ v.2.2 = p) (h2 : w.1 = p ∨ w.2.2 = p) : 2 ≤ endsOf W p := by
  induction W with
  | nil => simp at hv
  | cons u W ih =>
    rw [ends_cons]
    have one : ∀ z : Way, z ∈ W → (z.1 = p ∨ z.2.2 = p) → 1 ≤ endsOf W p := by
      intro z hz h
      obtain ⟨_, g1, g2⟩ := ends_pos hz
      rcases h with h | h
      · rw [← h]; exact g1
      · rw [← h]; exact g2
    have here : ∀ z : Way, (z.1 = p ∨ z.2.2 = p) → 1 ≤ (if z.1 = p then 1 else 0) + (if z.2.2 = p then 1 else 0) := by
      intro z h
      rcases h with h | h
      · rw [if_pos h]; omega
      · rw [if_pos h]; omega
    rcases List.mem_cons.mp hv with e | hv'
    · rcases List.mem_cons.mp hw with e' | hw'
      · exact absurd (e.trans e'.symm) hne
      · have g1 := one w hw' h2
        have g2 := here v h1
        rw [e] at g2
        omega
    · rcases List.mem_cons.mp hw with e' | hw'
      · have g1 := one v hv' h1
        have g2 := here w h2
        rw [e'] at g2
        omega
      · have := ih hv' hw'
        omega
def isTail (W : List Way) (b : Nat) (w : Way) : Bool := decide ((w.1 ≠ b ∧ endsOf W w.1 < 2) ∨ (w.2.2 ≠ b ∧ endsOf W w.2.2 < 2))
def cut (W : List Way) (b : Nat) : List Way := W.filter fun w => !isTail W b w
inductive Tr (b : Nat) : Int → List Way → List Way → Prop
  | stop {m : Int} {W : List Way} : m = W.length → Tr b m W W
  | go {m : Int} {W V : List Way} : m ≠ W.length → Tr b W.length (cut W b) V → Tr b m W V
theorem tr_none {b : Nat} {W V : List Way} {m : Int} (hn : ∀ w ∈ W, isTail W b w = false) (h : Tr b m W V) : V = W := by
  have hc : cut W b = W := by
    unfold cut
    rw [List.filter_eq_self]
    intro w hw
    rw [hn w hw]
    rfl
  induction h with
  | stop _ => rfl
  | go _ h ih =>
    rw [hc] at h
    cases h with
    | stop _ => rfl
    | go h1 _ => exact absurd rfl h1
/-- looped ways have no tails -/
theorem looped_no_tail {W : List Way} {b : Nat} (D : Det W) (L : Looped W b) : ∀ w ∈ W, isTail W b w = false := by
  have key : ∀ p x q, St W p x q → p ≠ b → 2 ≤ endsOf W p := by
    intro p x q h hp
    obtain ⟨u, v, hr, h1, h2⟩ := L p x q h
    rcases List.eq_nil_or_concat u with e | ⟨u', y, e⟩
    · subst e
      exact absurd h1.symm hp
    · rw [List.concat_eq_append] at e
      subst e
      obtain ⟨m, h3, h4⟩ := walk_snoc.mp h1
      have hne : x ≠ y.inv := by
        have h5 : Red ([y] ++ x :: v) := by
          rw [List.append_assoc] at hr
          exact hr.right
        exact h5.1
      -- the way by which p is come to and the way by which it is left
      have w1 : ∃ w ∈ W, (w.1 = p ∨ w.2.2 = p) ∧ w = (if x.u = true then (q, x.d, p) else (p, x.d, q)) := by
        unfold St at h
        cases hx : x.u with
        | true => simp [hx] at h ⊢; exact h
        | false => simp [hx] at h ⊢; exact h
      have w2 : ∃ w ∈ W, (w.1 = p ∨ w.2.2 = p) ∧ w = (if y.u = true then (p, y.d, m) else (m, y.d, p)) := by
        unfold St at h4
        cases hy : y.u with
        | true => simp [hy] at h4 ⊢; exact h4
        | false => simp [hy] at h4 ⊢; exact h4
      obtain ⟨a, ha, ap, ae⟩ := w1
      obtain ⟨c, hc, cp, ce⟩ := w2
      by_cases hac : a = c
      · subst hac
        -- one way: from p to p, or the same letter
        by_cases hpp : a.1 = a.2.2
        · have := (ends_pos ha).1 hpp
          rcases ap with z | z
          · rw [← z]; exact this
          · rw [← z, ← hpp]; exact this
        · exfalso
          rw [ae] at ce
          obtain ⟨xd, xu⟩ := x
          obtain ⟨yd, yu⟩ := y
          cases xu <;> cases yu <;> simp at ce ae
          · obtain ⟨e1, e2, e3⟩ := ce
            rw [ae] at hpp
            simp at hpp
            exact hpp e3.symm
          · obtain ⟨e1, e2⟩ := ce
            apply hne
            simp [Lt.inv, e1]
          · obtain ⟨e1, e2⟩ := ce
            apply hne
            simp [Lt.inv, e2]
          · obtain ⟨e1, e2, e3⟩ := ce
            rw [ae] at hpp
            simp at hpp
            exact hpp e1
      · exact ends_two ha hc hac ap cp
  rintro ⟨p, d, q⟩ hw
  unfold isTail
  refine decide_eq_false ?_
  rintro (⟨h1, h2⟩ | ⟨h1, h2⟩)
  · have := key p ⟨d, false⟩ q (by simpa [St] using hw) h1
    simp only at h2
    omega
  · have := key q ⟨d, true⟩ p (by simpa [St] using hw) h1
    simp only at h2
    omega
end Rb
/-! Ways from the base to each place; what is kept; a basis. -/
namespace Rb
set_option autoImplicit false
set_option linter.unusedVariables false
/-! ### where a row leads -/
def walkD (δ : Nat → Lt → Option Nat) : Nat → Row → Option Nat
  | p, [] => some p
  | p, x :: r => (δ p x).bind fun q => walkD δ q r
theorem walkD_snoc (δ : Nat → Lt → Option Nat) : ∀ (r : Row) (p : Nat) (x : Lt), walkD δ p (r ++ [x]) = (walkD δ p r).bind fun q => δ q x
  | [], p, x => by
    show (δ p x).bind (fun q => some q) = δ p x
    cases δ p x <;> rfl
  | y :: r, p, x => by
    show (δ p y).bind (fun q => walkD δ q (r ++ [x])) = ((δ p y).bind fun q => walkD δ q r).bind fun q => δ q x
    cases δ p y with
    | none => rfl
    | some q => exact walkD_snoc δ r q x
theorem walkD_none (δ : Nat → Lt → Option Nat) : ∀ (r s : Row) (p : Nat), walkD δ p r = none → walkD δ p (r ++ s) = none
  | [], s, p, h => by cases h
  | y :: r, s, p, h => by
    show (δ p y).bind (fun q => walkD δ q (r ++ s)) = none
    have h2 : (δ p y).bind (fun q => walkD δ q r) = none := h
    cases e : δ p y with
    | none => rfl
    | some q =>
      rw [e] at h2
      exact walkD_none δ r s q h2
theorem walkD_iff {W : List Way} {δ : Nat → Lt → Option Nat} (F : Fits W δ) : ∀ {r : Row} {p q : Nat}, walkD δ p r = some q ↔ Walk W p r q
  | [], p, q => by
    show some p = some q ↔ p = q
    simp
  | x :: r, p, q => by
    show (δ p x).bind (fun m => walkD δ m r) = some q ↔ ∃ m, St W p x m ∧ Walk W m r q
    constructor
    · intro h
      cases e : δ p x with
      | none => rw [e] at h; cases h
      | some m =>
        rw [e] at h
        exact ⟨m, (F p x m).mp e, (walkD_iff F).mp h⟩
    · rintro ⟨m, h1, h2⟩
      rw [(F p x m).mpr h1]
      exact (walkD_iff F).mpr h2
/-- what a web keeps, as it is asked -/
def keptB (W : List Way) (r : Row) : Bool := decide (walkD (stepsD W) 0 (net r) = some 0)
theorem keptB_iff {ls : List Lt} {rows : List Row} {w : WebD} (h : IsWeb ls rows w) (r : Row) : keptB w.ways r = true ↔ Gen rows r := by
  unfold keptB
  rw [decide_eq_true_iff, walkD_iff (fits_steps h.det)]
  exact h.keeps r
/-! ### the search with its rows -/
abbrev PR := Nat × Row
def rowR (δ : Lt → Option Nat) (r : Row) (ls : List Lt) (Q : List PR) : List PR :=
  ls.foldl (fun Q x => match δ x with
    | some g => if g ∈ Q.map (·.1) then Q else Q ++ [(g, r ++ [x])]
    | none => Q) Q
inductive BfsR (δ : Nat → Lt → Option Nat) (ls : List Lt) : Nat → List PR → List PR → Prop
  | done {i : Nat} {Q : List PR} : Q.length ≤ i → BfsR δ ls i Q Q
  | more {i : Nat} {e : PR} {Q R : List PR} : Q[i]? = some e → BfsR δ ls (i + 1) (rowR (δ e.1) e.2 ls Q) R → BfsR δ ls i Q R
theorem BfsR.unique {δ : Nat → Lt → Option Nat} {ls : List Lt} {i : Nat} {Q R R' : List PR} (h : BfsR δ ls i Q R) (k : BfsR δ ls i Q R') : R = R' := by
  induction h generalizing R' with
  | done hl =>
    cases k with
    | done _ => rfl
    | more hg _ =>
      have := (List.getElem?_eq_some_iff.mp hg).1
      omega
  | more hg _ ih =>
    cases k with
    | done hl =>
      have := (List.getElem?_eq_some_iff.mp hg).1
      omega
    | more hg' k' =>
      rw [hg] at hg'
      cases hg'
      exact ih k'
theorem rowR_snoc (δ : Lt → Option Nat) (r : Row) (ls : List Lt) (x : Lt) (Q : List PR) : rowR δ r (ls ++ [x]) Q = match δ x with
    | some g => if g ∈ (rowR δ r ls Q).map (·.1) then rowR δ r ls Q else rowR δ r ls Q ++ [(g, r ++ [x])]
    | none => rowR δ r ls Q := by
  unfold rowR
  rw [List.foldl_append]
  rfl
theorem rowR_fst (δ : Lt → Option Nat) (r : Row) : ∀ (ls : List Lt) (Q : List PR), (rowR δ r ls Q).map (·.1) = rowOf δ ls (Q.map (·.1))
  | [], Q => rfl
  | x :: ls, Q => by
    unfold rowR rowOf
    rw [List.foldl_cons, List.foldl_cons]
    have ih := rowR_fst δ r ls
    unfold rowR rowOf at ih
    rw [ih]
    cases δ x with
    | none => rfl
    | some g =>
      simp only
      by_cases hg : g ∈ Q.map (·.1)
      · rw [if_pos hg, if_pos hg]
      · rw [if_neg hg, if_neg hg, List.map_append]
        rfl
theorem rowR_pre {δ : Lt → Option Nat} {r : Row} : ∀ {ls : List Lt} {Q : List PR}, ∃ T, rowR δ r ls Q = Q ++ T
  | [], Q => ⟨[], by simp [rowR]⟩
  | y :: ls, Q => by
    unfold rowR
    rw [List.foldl_cons]
    cases e : δ y with
    | none => exact rowR_pre (ls := ls) (Q := Q)
    | some g =>
      by_cases hg : g ∈ Q.map (·.1)
      · simp only [if_pos hg]
        exact rowR_pre (ls := ls) (Q := Q)
      · simp only [if_neg hg]
        obtain ⟨T, hT⟩ := rowR_pre (δ := δ) (r := r) (ls := ls) (Q := Q ++ [(g, r ++ [y])])
        refine ⟨(g, r ++ [y]) :: T, ?_⟩
        unfold rowR at hT
        rw [hT]
        simp
theorem rowR_mem {δ : Lt → Option Nat} {r : Row} : ∀ {ls : List Lt} {Q : List PR} {e : PR}, e ∈ rowR δ r ls Q → e ∈ Q ∨ ∃ x ∈ ls, δ x = some e.1 ∧ e.2 = r ++ [x]
  | [], _, _, h => .inl h
  | y :: ls, Q, e, h => by
    unfold rowR at h
    rw [List.foldl_cons] at h
    rcases rowR_mem (ls := ls) h with h | ⟨x, h1, h2⟩
    · cases e' : δ y with
      | none => rw [e'] at h; exact .inl (by simpa using h)
      | some k =>
        rw [e'] at h
        simp only at h
        by_cases hk : k ∈ Q.map (·.1)
        · rw [if_pos hk] at h; exact .inl h
        · rw [if_neg hk] at h
          rcases List.mem_append.mp h with h | h
          · exact .inl h
          · rw [List.mem_singleton.mp h]
            exact .inr ⟨y, by simp, e', rfl⟩
    · exact .inr ⟨x, List.mem_cons_of_mem _ h1, h2⟩
theorem BfsR.bfs {δ : Nat → Lt → Option Nat} {ls : List Lt} {i : Nat} {Q R : List PR} (h : BfsR δ ls i Q R) : Bfs δ ls i (Q.map (·.1)) (R.map (·.1)) := by
  induction h with
  | done hl => exact .done (by rw [List.length_map]; exact hl)
  | @more i e Q R hg _ ih =>
    refine .more (p := e.1) (by rw [List.getElem?_map, hg]; rfl) ?_
    rw [← rowR_fst]
    exact ih
theorem BfsR.all {δ : Nat → Lt → Option Nat} {ls : List Lt} {i : Nat} {Q R : List PR} {Pr : PR → Prop} (hs : ∀ p r x q, Pr (p, r) → δ p x = some q → Pr (q, r ++ [x])) (h : BfsR δ ls i Q R) : (∀ e ∈ Q, Pr e) → ∀ e ∈ R, Pr e := by
  induction h with
  | done _ => exact fun h => h
  | @more i e Q R hg _ ih =>
    intro hQ
    refine ih fun e' he => ?_
    rcases rowR_mem he with h | ⟨x, _, h1, h2⟩
    · exact hQ _ h
    · obtain ⟨q, r'⟩ := e'
      simp only at h1 h2
      subst h2
      exact hs _ _ _ _ (hQ e (List.mem_of_getElem? hg)) h1
def rowAt (R : List PR) (p : Nat) : Row := ((R.find? fun e => decide (e.1 = p)).map (·.2)).getD []
theorem rowAt_mem {R : List PR} {p : Nat} (h : p ∈ R.map (·.1)) : (p, rowAt R p) ∈ R := by
  unfold rowAt
  obtain ⟨e, he, hp⟩ := List.mem_map.mp h
  cases hf : R.find? fun e => decide (e.1 = p) with
  | none =>
    have := List.find?_eq_none.mp hf e he
    simp at this
    exact absurd hp this
  | some e' =>
    have h1 := List.mem_of_find?_eq_some hf
    have h2 := List.find?_some hf
    simp only [decide_eq_true_eq] at h2
    obtain ⟨q, r⟩ := e'
    simp only at h2
    subst h2
    exact h1
theorem rowAt_snoc {R : List PR} {p q : Nat} {r : Row} (h : q ∉ R.map (·.1)) : rowAt (R ++ [(q, r)]) p = if p = q then r else rowAt R p := by
  unfold rowAt
  rw [List.find?_append]
  by_cases e : p = q
  · subst e
    rw [if_pos rfl]
    have : R.find? (fun e => decide (e.1 = p)) = none := by
      rw [List.find?_eq_none]
      intro e he hd
      simp only [decide_eq_true_eq] at hd
      exact h (List.mem_map.mpr ⟨e, he, hd⟩)
    rw [this]
    simp
  · rw [if_neg e]
    cases R.find? (fun e => decide (e.1 = p)) with
    | some e' => simp
    | none =>
      simp [fun z => e (Eq.symm z)]
      have : ¬ q = p := fun z => e z.symm
      simp [this]
/-! ### the search from 0 over a web finds all -/
def Reach (ls : List Lt) (w : WebD) : Prop := ∀ R, Bfs (stepsD w.ways) ls 0 [0] R → ∀ i, i < w.size → i ∈ R
theorem bfs_all2 {δ : Nat → Lt → Option Nat} {ls : List Lt} {i : Nat} {Q R : List Nat} {Pr : Nat → Prop} (hs : ∀ p x q, Pr p → x ∈ ls → δ p x = some q → Pr q) (h : Bfs δ ls i Q R) : (∀ p ∈ Q, Pr p) → ∀ p ∈ R, Pr p := by
  induction h with
  | done _ => exact fun h => h
  | more hg _ ih =>
    intro hQ
    refine ih fun p hp => ?_
    rcases rowOf_mem hp with h | ⟨x, hx, h⟩
    · exact hQ p h
    · exact hs _ _ _ (hQ _ (List.mem_of_getElem? hg)) hx h
theorem IsWeb.reach {ls : List Lt} {rows : List Row} {w : WebD} (h : IsWeb ls rows w) : Reach ls w := by
  have hdet := h.det
  obtain ⟨W, b, δ, Q, h1, h2, h3, h4, h5⟩ := h
  intro R hR i hi
  obtain ⟨nd, hb, hz, hc⟩ := closed_of h1 h2 h3
  obtain ⟨_, r2, _, r4⟩ := bfs_end hR (by simp) (by intro j p x g hj; omega)
  have hF := fits_steps hdet
  subst h5
  have key : ∀ p ∈ Q, p ∈ Q ∧ Q.idxOf p ∈ R := by
    refine bfs_all2 (Pr := fun p => p ∈ Q ∧ Q.idxOf p ∈ R) (fun p x q hp hx hd => ?_) h3 ?_
    · have hs : St W p x q := (h2 p x q).mp hd
      have hq : q ∈ Q := hc p x q hp.1 hs
      refine ⟨hq, r4 _ x _ hp.2 hx ((hF _ _ _).mpr (st_wsort.mpr ((st_numb nd hc).mpr ⟨p, q, idx_get hp.1, idx_get hq, hs⟩)))⟩
    · intro p hp
      rw [List.mem_singleton.mp hp]
      refine ⟨hb, ?_⟩
      rw [idx_of nd hz]
      exact r2 0 (by simp)
  have hi2 : i < Q.length := hi
  have := key Q[i] (List.getElem_mem hi2)
  rw [idx_of nd (List.getElem?_eq_getElem hi2)] at this
  exact this.2
/-! ### a basis -/
def basisOf (rw : Nat → Row) (ws : List Way) : List Row :=
  (ws.filter fun v => decide (rw v.2.2 ≠ rw v.1 ++ [⟨v.2.1, false⟩] ∧ rw v.1 ≠ rw v.2.2 ++ [⟨v.2.1, true⟩])).map fun v => net (rw v.1 ++ [⟨v.2.1, false⟩] ++ invR (rw v.2.2))
theorem basis_walk {ls : List Lt} {w : WebD} {R : List PR} (hD : Det w.ways) (hr : Reach ls w) (hlt : ∀ v ∈ w.ways, v.1 < w.size ∧ v.2.2 < w.size) (hB : BfsR (stepsD w.ways) ls 0 [(0, [])] R) :
    ∀ r ∈ basisOf (rowAt R) w.ways, Walk w.ways 0 r 0 ∧ net r = r := by
  intro r h
  unfold basisOf at h
  obtain ⟨⟨p, d, q⟩, hv, rfl⟩ := List.mem_map.mp h
  have hv2 := (List.mem_filter.mp hv).1
  obtain ⟨l1, l2⟩ := hlt _ hv2
  have hall : ∀ e ∈ R, Walk w.ways 0 e.2 e.1 := by
    refine hB.all (Pr := fun e => Walk w.ways 0 e.2 e.1) (fun p r x q hp hd => ?_) (fun e he => by rw [List.mem_singleton.mp he]; exact rfl)
    exact walk_snoc.mpr ⟨p, hp, stepsD_sound _ hd⟩
  have hin : ∀ i, i < w.size → Walk w.ways 0 (rowAt R i) i := fun i hi => hall _ (rowAt_mem (hr _ hB.bfs i hi))
  refine ⟨?_, net_net _⟩
  refine Walk.net hD ?_
  refine walk_append.mpr ⟨q, walk_snoc.mpr ⟨p, hin p l1, by simpa [St] using hv2⟩, (hin q l2).back⟩
theorem basis_kept {ls : List Lt} {rows : List Row} {w : WebD} {R : List PR} (h : IsWeb ls rows w) (hlt : ∀ v ∈ w.ways, v.1 < w.size ∧ v.2.2 < w.size) (hB : BfsR (stepsD w.ways) ls 0 [(0, [])] R) : ∀ r ∈ basisOf (rowAt R) w.ways, keptB w.ways r = true := by
  intro r hr
  obtain ⟨h1, h2⟩ := basis_walk h.det h.reach hlt hB r hr
  unfold keptB
  rw [decide_eq_true_iff, walkD_iff (fits_steps h.det), h2]
  exact h1
end Rb
/-! Rows told otherwise make the same. -/
namespace Rb
set_option autoImplicit false
set_option linter.unusedVariables false
theorem gen_iff {R S : List Row} (h : ∀ r ∈ R, Gen S r) (k : ∀ r ∈ S, Gen R r) : ∀ u, Gen R u ↔ Gen S u := fun u => ⟨fun g => g.sub h, fun g => g.sub k⟩
theorem gen_add {R : List Row} {x : Row} (hx : Gen R x) : ∀ u, Gen R u ↔ Gen (R ++ [x]) u := by
  refine gen_iff (fun r hr => Gen.mem (List.mem_append_left _ hr)) fun r hr => ?_
  rcases List.mem_append.mp hr with h | h
  · exact Gen.mem h
  · rw [List.mem_singleton.mp h]; exact hx
theorem gen_turn (R : List Row) (h : Nat) : ∀ u, Gen R u ↔ Gen (R.drop h ++ R.take h) u := by
  refine gen_iff (fun r hr => Gen.mem ?_) fun r hr => Gen.mem ?_
  · rw [← List.take_append_drop h R] at hr
    rcases List.mem_append.mp hr with hr | hr
    · exact List.mem_append_right _ hr
    · exact List.mem_append_left _ hr
  · rcases List.mem_append.mp hr with hr | hr
    · exact List.mem_of_mem_drop hr
    · exact List.mem_of_mem_take hr
def putR (R : List Row) (h : Nat) (x : Row) : List Row := R.take h ++ [x] ++ R.drop (h + 1)
theorem mem_split {R : List Row} {h : Nat} {y : Row} (hy : R[h]? = some y) {r : Row} (hr : r ∈ R) : r ∈ R.take h ∨ r = y ∨ r ∈ R.drop (h + 1) := by
  obtain ⟨hh, e⟩ := List.getElem?_eq_some_iff.mp hy
  rw [← List.take_append_drop h R] at hr
  rcases List.mem_append.mp hr with hr | hr
  · exact .inl hr
  · rw [List.drop_eq_getElem_cons hh, e] at hr
    rcases List.mem_cons.mp hr with hr | hr
    · exact .inr (.inl hr)
    · exact .inr (.inr hr)
theorem gen_put {R : List Row} {h : Nat} {x y : Row} (hy : R[h]? = some y) (hx : Gen R x) (hb : Gen (putR R h x) y) : ∀ u, Gen R u ↔ Gen (putR R h x) u := by
  refine gen_iff (fun r hr => ?_) fun r hr => ?_
  · rcases mem_split hy hr with h1 | h1 | h1
    · exact Gen.mem (List.mem_append_left _ (List.mem_append_left _ h1))
    · rw [h1]; exact hb
    · exact Gen.mem (List.mem_append_right _ h1)
  · rcases List.mem_append.mp hr with hr | hr
    · rcases List.mem_append.mp hr with hr | hr
      · exact Gen.mem (List.mem_of_mem_take hr)
      · rw [List.mem_singleton.mp hr]; exact hx
    · exact Gen.mem (List.mem_of_mem_drop hr)
theorem mem_put (R : List Row) (h : Nat) (x : Row) : x ∈ putR R h x := List.mem_append_left _ (List.mem_append_right _ (by simp))
theorem mem_other {R : List Row} {h t : Nat} {x z : Row} (hz : R[t]? = some z) (ht : h ≠ t) : z ∈ putR R h x := by
  obtain ⟨hh, e⟩ := List.getElem?_eq_some_iff.mp hz
  rcases Nat.lt_or_gt_of_ne ht with h1 | h1
  · refine List.mem_append_right _ (List.mem_of_getElem? (i := t - (h + 1)) ?_)
    rw [List.getElem?_drop, show h + 1 + (t - (h + 1)) = t by omega]
    exact hz
  · refine List.mem_append_left _ (List.mem_append_left _ (List.mem_of_getElem? (i := t) ?_))
    rw [List.getElem?_take_of_lt h1]
    exact hz
/-- x may stand where y stood -/
structure Good (R : List Row) (h : Nat) (y x : Row) : Prop where
  from_ : Gen R x
  back : Gen (putR R h x) y
theorem good_same {R : List Row} {h : Nat} {y : Row} (hy : R[h]? = some y) : Good R h y y := ⟨Gen.mem (List.mem_of_getElem? hy), Gen.mem (mem_put _ _ _)⟩
theorem good_inv {R : List Row} {h : Nat} {y : Row} (hy : R[h]? = some y) : Good R h y (invR y) := by
  refine ⟨Gen.mem_inv (List.mem_of_getElem? hy), ?_⟩
  have := Gen.mem_inv (mem_put R h (invR y))
  rwa [invR_invR] at this
theorem good_left {R : List Row} {h t : Nat} {y z : Row} (hy : R[h]? = some y) (hz : R[t]? = some z) (ht : h ≠ t) : Good R h y (z ++ y) := by
  refine ⟨(Gen.mem (List.mem_of_getElem? hz)).app (Gen.mem (List.mem_of_getElem? hy)), ?_⟩
  have h1 : Gen (putR R h (z ++ y)) (invR z ++ (z ++ y)) := (Gen.mem_inv (mem_other hz ht)).app (Gen.mem (mem_put _ _ _))
  refine gen_of_net ?_ h1
  have := net_word [] (invR z) y
  rw [invR_invR] at this
  simpa using this
theorem good_right {R : List Row} {h t : Nat} {y z : Row} (hy : R[h]? = some y) (hz : R[t]? = some z) (ht : h ≠ t) : Good R h y (y ++ invR z) := by
  refine ⟨(Gen.mem (List.mem_of_getElem? hy)).app (Gen.mem_inv (List.mem_of_getElem? hz)), ?_⟩
  have h1 : Gen (putR R h (y ++ invR z)) ((y ++ invR z) ++ z) := (Gen.mem (mem_put _ _ _)).app (Gen.mem (mem_other hz ht))
  refine gen_of_net ?_ h1
  have := net_word y (invR z) []
  rw [invR_invR] at this
  simpa using this
theorem good_pair {R : List Row} {h : Nat} {y : Row} (hy : R[h]? = some y) (n : Nat) (x : Lt) : Good R h y (y.take n ++ [x] ++ [x.inv] ++ y.drop n) := by
  have e : net (y.take n ++ [x] ++ [x.inv] ++ y.drop n) = net y := by
    have := net_word (y.take n) [x] (y.drop n)
    rw [List.take_append_drop] at this
    rw [← this]
    rw [List.append_assoc, List.append_assoc]
    rfl
  exact ⟨gen_of_net e.symm (Gen.mem (List.mem_of_getElem? hy)), gen_of_net e (Gen.mem (mem_put _ _ _))⟩
end Rb
/-! The laws' own folding: two places are made one at a time. -/
namespace Rb
set_option linter.all false
def laidL : Nat → List Row → List Arr
  | _, [] => []
  | fresh, r :: rs => chainA 0 0 fresh (net r) ++ laidL (fresh + ((net r).length - 1)) rs
def laidLMany : Nat → List Row → Nat
  | fresh, [] => fresh
  | fresh, r :: rs => laidLMany (fresh + ((net r).length - 1)) rs
theorem laidLMany_le : ∀ {rs : List Row} {fresh : Nat}, fresh ≤ laidLMany fresh rs
  | [], _ => Nat.le_refl _
  | r :: rs, fresh => Nat.le_trans (Nat.le_add_right _ _) (laidLMany_le (rs := rs))
theorem laidL_lt : ∀ {rs : List Row} {fresh : Nat}, 0 < fresh → ∀ {p q : Nat} {x : Lt}, (p, x, q) ∈ laidL fresh rs → p < laidLMany fresh rs ∧ q < laidLMany fresh rs ∧ ∃ r ∈ rs, x ∈ net r
  | [], _, _, _, _, _, h => by simp [laidL] at h
  | r :: rs, fresh, hf, p, q, x, h => by
    simp only [laidL, List.mem_append] at h
    have hle : fresh + ((net r).length - 1) ≤ laidLMany (fresh + ((net r).length - 1)) rs := laidLMany_le
    rcases h with h | h
    · obtain ⟨a, b, c⟩ := chain_lt (n := laidLMany (fresh + ((net r).length - 1)) rs) (by omega) (by omega) (by omega) h
      exact ⟨a, b, r, by simp, c⟩
    · obtain ⟨a, b, s, hs, c⟩ := laidL_lt (rs := rs) (by omega) h
      exact ⟨a, b, s, List.mem_cons_of_mem _ hs, c⟩
/-- each row is read from 0 to 0; each arrow is one of a row -/
theorem laidL_walk {W : List Way} : ∀ {rs : List Row} {fresh : Nat}, (∀ p x q, (p, x, q) ∈ laidL fresh rs → St W p x q) → ∀ r ∈ rs, Walk W 0 (net r) 0
  | [], _, _, r, h => by simp at h
  | s :: rs, fresh, k, r, h => by
    rcases List.mem_cons.mp h with h | h
    · subst h
      by_cases e : net r = []
      · rw [e]; exact rfl
      · exact chain_walk e fun p x q hm => k p x q (by simp only [laidL, List.mem_append]; exact .inl hm)
    · exact laidL_walk (rs := rs) (fun p x q hm => k p x q (by simp only [laidL, List.mem_append]; exact .inr hm)) r h
theorem laidL_split {W : List Way} : ∀ {rs : List Row} {fresh : Nat}, (∀ p x q, (p, x, q) ∈ laidL fresh rs → St W p x q) → ∀ {p q : Nat} {x : Lt}, (p, x, q) ∈ laidL fresh rs →
    ∃ u v, Red (u ++ x :: v) ∧ Walk W 0 u p ∧ Walk W q v 0
  | [], _, _, _, _, _, h => by simp [laidL] at h
  | s :: rs, fresh, k, p, q, x, h => by
    simp only [laidL, List.mem_append] at h
    rcases h with h | h
    · obtain ⟨u, v, e, h1, h2⟩ := chain_split (W := W) h fun p x q hm => k p x q (by simp only [laidL, List.mem_append]; exact .inl hm)
      exact ⟨u, v, by rw [← e]; exact red_net s, h1, h2⟩
    · exact laidL_split (rs := rs) (fun p x q hm => k p x q (by simp only [laidL, List.mem_append]; exact .inr hm)) h
def labelsL : Nat → List Row → Nat → Row
  | _, [], _ => []
  | fresh, r :: rs, i => if i < fresh + ((net r).length - 1) then (if fresh ≤ i then (net r).take (i - fresh + 1) else []) else labelsL (fresh + ((net r).length - 1)) rs i
theorem labelsL_low : ∀ {rs : List Row} {fresh i : Nat}, i < fresh → labelsL fresh rs i = []
  | [], _, _, _ => rfl
  | r :: rs, fresh, i, h => by
    simp only [labelsL]
    rw [if_pos (by omega), if_neg (by omega)]
theorem labelsL_lab {G : List Row} : ∀ {rs : List Row} {fresh : Nat} {f : Nat → Row}, 0 < fresh → (∀ r ∈ rs, r ∈ G) → f 0 = [] → (∀ i, fresh ≤ i → f i = labelsL fresh rs i) → Lab G f (laidL fresh rs)
  | [], _, _, _, _, _, _ => by intro p x q h; simp [laidL] at h
  | r :: rs, fresh, f, hf, hm, h0, hl => by
    intro p x q h
    simp only [laidL, List.mem_append] at h
    rcases h with h | h
    · refine chain_lab (u := []) (by rw [h0]; exact Cos.refl _ _) ?_ ?_ p x q h
      · rw [h0]
        unfold Cos
        simp only [List.nil_append, invR_nil, List.append_nil]
        exact gen_net.mpr (Gen.mem (hm r (by simp)))
      · intro i hi
        rw [hl _ (by omega)]
        simp only [labelsL]
        rw [if_pos (by omega), if_pos (by omega), Nat.add_sub_cancel_left]
        rfl
    · refine labelsL_lab (rs := rs) (by omega) (fun r hr => hm r (List.mem_cons_of_mem _ hr)) h0 ?_ p x q h
      intro i hi
      rw [hl i (by omega)]
      simp only [labelsL]
      rw [if_neg (by omega)]
/-! ### what holds while places are made one -/
structure Fo (ls : List Lt) (rows : List Row) (f : Nat → Row) (W : List Way) : Prop where
  base : f 0 = []
  lab : LabW rows f W
  walk : ∀ r ∈ rows, Walk W 0 (net r) 0
  loop : Looped W 0
  lets : ∀ p x q, St W p x q → x ∈ ls
theorem fwd_back (W : List Way) : fwd (W.map fun w => (w.1, (⟨w.2.1, false⟩ : Lt), w.2.2)) = W := by
  unfold fwd
  rw [List.map_map]
  induction W with
  | nil => rfl
  | cons w W ih => rw [List.map_cons, ih]; rfl
theorem LabW.st {G : List Row} {f : Nat → Row} {W : List Way} (L : LabW G f W) {p q : Nat} {x : Lt} (h : St W p x q) : Cos G (f p ++ [x]) (f q) := by
  have L2 : Lab G f (W.map fun w => (w.1, (⟨w.2.1, false⟩ : Lt), w.2.2)) := by
    intro p x q hm
    obtain ⟨⟨a, d, b⟩, hw, e⟩ := List.mem_map.mp hm
    simp only [Prod.mk.injEq] at e
    obtain ⟨e1, e2, e3⟩ := e
    subst e1; subst e2; subst e3
    exact L _ _ _ hw
  rw [← fwd_back W] at h
  exact lab_fwd L2 h
/-- W' has the ways of W with their places turned by R -/
def Img (R : Nat → Nat) (W W' : List Way) : Prop := ∀ w, w ∈ W' ↔ ∃ v ∈ W, imgW R v = w
theorem st_img {R : Nat → Nat} {W W' : List Way} (h : Img R W W') {p q : Nat} {x : Lt} : St W' p x q ↔ ∃ p0 q0, St W p0 x q0 ∧ R p0 = p ∧ R q0 = q := by
  unfold St
  cases x.u with
  | true =>
    simp only [if_true]
    rw [h]
    constructor
    · rintro ⟨⟨a, d, b⟩, h1, h2⟩
      simp only [imgW, Prod.mk.injEq] at h2
      obtain ⟨e1, e2, e3⟩ := h2
      subst e2
      exact ⟨b, a, h1, e3, e1⟩
    · rintro ⟨p0, q0, h1, h2, h3⟩
      exact ⟨_, h1, by simp only [imgW, h2, h3]⟩
  | false =>
    simp only [Bool.false_eq_true, if_false]
    rw [h]
    constructor
    · rintro ⟨⟨a, d, b⟩, h1, h2⟩
      simp only [imgW, Prod.mk.injEq] at h2
      obtain ⟨e1, e2, e3⟩ := h2
      subst e2
      exact ⟨a, b, h1, e1, e3⟩
    · rintro ⟨p0, q0, h1, h2, h3⟩
      exact ⟨_, h1, by simp only [imgW, h2, h3]⟩
theorem walk_img {R : Nat → Nat} {W W' : List Way} (h : Img R W W') : ∀ {w : Row} {p q : Nat}, Walk W p w q → Walk W' (R p) w (R q)
  | [], p, q, k => by rw [show p = q from k]; exact rfl
  | x :: w, p, q, ⟨m, a, b⟩ => ⟨R m, (st_img h).mpr ⟨_, _, a, rfl, rfl⟩, walk_img h b⟩
theorem Fo.img {ls : List Lt} {rows : List Row} {f : Nat → Row} {W W' : List Way} (F : Fo ls rows f W) {R : Nat → Nat} (h0 : R 0 = 0) (hs : Snd rows f R) (h : Img R W W') : Fo ls rows f W' where
  base := F.base
  lab := by
    intro p d q hm
    obtain ⟨⟨a, e, b⟩, h1, h2⟩ := (h _).mp hm
    simp only [imgW, Prod.mk.injEq] at h2
    obtain ⟨e1, e2, e3⟩ := h2
    subst e1; subst e2; subst e3
    exact cos_put hs (F.lab _ _ _ h1)
  walk := fun r hr => by
    have := walk_img h (F.walk r hr)
    rwa [h0] at this
  loop := by
    intro p x q hst
    obtain ⟨p0, q0, h1, h2, h3⟩ := (st_img h).mp hst
    obtain ⟨u, v, c1, c2, c3⟩ := F.loop _ _ _ h1
    have d1 := walk_img h c2
    have d2 := walk_img h c3
    rw [h0, h2] at d1
    rw [h0, h3] at d2
    exact ⟨u, v, c1, d1, d2⟩
  lets := by
    intro p x q hst
    obtain ⟨p0, q0, h1, _, _⟩ := (st_img h).mp hst
    exact F.lets _ _ _ h1
/-- the same ways -/
theorem Fo.same {ls : List Lt} {rows : List Row} {f : Nat → Row} {W W' : List Way} (F : Fo ls rows f W) (h : ∀ w, w ∈ W' ↔ w ∈ W) : Fo ls rows f W' :=
  F.img (R := id) rfl (fun i => Cos.refl _ _) (fun w => by
    rw [h]
    constructor
    · intro k
      exact ⟨w, k, rfl⟩
    · rintro ⟨v, k, e⟩
      rw [← e]
      exact k)
/-- one place in the stead of another one -/
def mergeR (a b : Nat) : Nat → Nat := fun i => if i = max a b then min a b else i
theorem mergeR_zero (a b : Nat) : mergeR a b 0 = 0 := by
  unfold mergeR
  split
  · omega
  · rfl
/-- two places to which one letter leads from one place -/
def Clash (W : List Way) (a b : Nat) : Prop := a ≠ b ∧ ∃ p x, St W p x a ∧ St W p x b
theorem mergeR_snd {ls : List Lt} {rows : List Row} {f : Nat → Row} {W : List Way} (F : Fo ls rows f W) {a b : Nat} (h : Clash W a b) : Snd rows f (mergeR a b) := by
  obtain ⟨_, p, x, h1, h2⟩ := h
  have c : Cos rows (f a) (f b) := (F.lab.st h1).symm.trans (F.lab.st h2)
  intro i
  unfold mergeR
  split
  · rename_i e
    subst e
    rcases Nat.le_total a b with e | e
    · rw [Nat.max_eq_right e, Nat.min_eq_left e]; exact c.symm
    · rw [Nat.max_eq_left e, Nat.min_eq_right e]; exact c
  · exact Cos.refl _ _
theorem Fo.merge {ls : List Lt} {rows : List Row} {f : Nat → Row} {W W' : List Way} (F : Fo ls rows f W) {a b : Nat} (h : Clash W a b) (k : Img (mergeR a b) W W') : Fo ls rows f W' :=
  F.img (mergeR_zero a b) (mergeR_snd F h) k
/-- the rings of rows, laid -/
theorem fo_laid {ls : List Lt} {rows : List Row} (hls : ∀ x ∈ ls, x.inv ∈ ls) (hr : ∀ r ∈ rows, ∀ x ∈ r, x ∈ ls) : Fo ls rows (labelsL 1 rows) (fwd (laidL 1 rows)) where
  base := labelsL_low (by omega)
  lab := by
    have L : Lab rows (labelsL 1 rows) (laidL 1 rows) := labelsL_lab (by omega) (fun r h => h) (labelsL_low (by omega)) fun i _ => rfl
    exact fun p d q h => lab_fwd (x := ⟨d, false⟩) L (by simpa [St] using h)
  walk := laidL_walk (fun p x q h => st_fwd.mpr (.inl h))
  loop := by
    intro p x q hst
    rcases st_fwd.mp hst with h | h
    · exact laidL_split (rs := rows) (fresh := 1) (fun p x q h => st_fwd.mpr (.inl h)) h
    · obtain ⟨u, v, c1, c2, c3⟩ := laidL_split (rs := rows) (fresh := 1) (W := fwd (laidL 1 rows)) (fun p x q h => st_fwd.mpr (.inl h)) h
      refine ⟨invR v, invR u, ?_, c3.back, c2.back⟩
      have e := red_inv c1
      rw [invR_append, invR_cons, Lt.inv_inv] at e
      simpa using e
  lets := by
    intro p x q hst
    rcases st_fwd.mp hst with h | h
    · obtain ⟨_, _, r, c1, c2⟩ := laidL_lt (by omega) h
      exact hr r c1 x (mem_net c2)
    · obtain ⟨_, _, r, c1, c2⟩ := laidL_lt (by omega) h
      have := hls _ (hr r c1 _ (mem_net c2))
      rwa [Lt.inv_inv] at this
/-- folded ways keep just what the rows make -/
theorem Fo.keeps {ls : List Lt} {rows : List Row} {f : Nat → Row} {W : List Way} (F : Fo ls rows f W) (D : Det W) : ∀ u, Red u → (Walk W 0 u 0 ↔ Gen rows u) := by
  have cw : ∀ {w : Row} {p q : Nat}, Walk W p w q → Cos rows (f p ++ w) (f q) := by
    intro w
    induction w with
    | nil => intro p q h; rw [show p = q from h, List.append_nil]; exact Cos.refl _ _
    | cons x w ih =>
      rintro p q ⟨m, a, b⟩
      have c3 := (F.lab.st a).right w
      rw [List.append_assoc] at c3
      exact c3.trans (ih b)
  intro u hu
  constructor
  · intro h
    have := cw h
    rw [F.base] at this
    simpa [Cos, invR_nil] using this
  · intro h
    have key : Walk W 0 (net u) 0 := by
      clear hu
      induction h with
      | nil => exact rfl
      | @row r w hr _ ih =>
        rw [← net_net_right, ← net_net_left]
        exact Walk.net D (walk_append.mpr ⟨0, F.walk r hr, ih⟩)
      | @inv r w hr _ ih =>
        have k1 := (F.walk r hr).back
        rw [← net_inv] at k1
        rw [← net_net_right, ← net_net_left]
        exact Walk.net D (walk_append.mpr ⟨0, k1, ih⟩)
      | @ins a b x _ ih =>
        have e := net_word a [x] b
        simp only [invR_cons, invR_nil, List.nil_append, List.singleton_append] at e
        rw [e]
        exact ih
      | @del a b x _ ih =>
        have e := net_word a [x] b
        simp only [invR_cons, invR_nil, List.nil_append, List.singleton_append] at e
        rw [e] at ih
        exact ih
    rwa [net_red hu] at key
theorem Fo.right {ls : List Lt} {rows : List Row} {f : Nat → Row} {W : List Way} (F : Fo ls rows f W) (D : Det W) (hn : W.Nodup) : Right ls W 0 := ⟨D, F.loop, hn, F.lets⟩
theorem Fo.isWeb {ls : List Lt} {rows : List Row} {f : Nat → Row} {W : List Way} {Q : List Nat} (F : Fo ls rows f W) (D : Det W) (hn : W.Nodup) (B : Bfs (stepsD W) ls 0 [0] Q) : IsWeb ls rows (webOf Q W) :=
  ⟨W, 0, stepsD W, Q, F.right D hn, fits_steps D, B, F.keeps D, rfl⟩
/-! ### fewer places at each turn -/
def placesIn (N : Nat) (W : List Way) : Nat := ((List.range N).filter fun i => decide (∃ w ∈ W, w.1 = i ∨ w.2.2 = i)).length
theorem st_end {W : List Way} {p q : Nat} {x : Lt} (h : St W p x q) : (∃ w ∈ W, w.1 = p ∨ w.2.2 = p) ∧ ∃ w ∈ W, w.1 = q ∨ w.2.2 = q := by
  unfold St at h
  split at h
  · exact ⟨⟨_, h, .inr rfl⟩, ⟨_, h, .inl rfl⟩⟩
  · exact ⟨⟨_, h, .inl rfl⟩, ⟨_, h, .inr rfl⟩⟩
theorem merge_fewer {W W' : List Way} {a b N : Nat} (h : Clash W a b) (k : Img (mergeR a b) W W') (hN : ∀ w ∈ W, w.1 < N ∧ w.2.2 < N) : placesIn N W' < placesIn N W := by
  obtain ⟨hne, p, x, h1, h2⟩ := h
  have ea := (st_end h1).2
  have eb := (st_end h2).2
  have lt : ∀ {i : Nat}, (∃ w ∈ W, w.1 = i ∨ w.2.2 = i) → i < N := by
    rintro i ⟨w, hw, e⟩
    have := hN w hw
    omega
  have img : ∀ i, (∃ w ∈ W', w.1 = i ∨ w.2.2 = i) → ∃ j, (∃ w ∈ W, w.1 = j ∨ w.2.2 = j) ∧ mergeR a b j = i := by
    rintro i ⟨w, hw, e⟩
    obtain ⟨v, hv, e2⟩ := (k w).mp hw
    subst e2
    rcases e with e | e
    · exact ⟨v.1, ⟨v, hv, .inl rfl⟩, e⟩
    · exact ⟨v.2.2, ⟨v, hv, .inr rfl⟩, e⟩
  have emax : ∃ w ∈ W, w.1 = max a b ∨ w.2.2 = max a b := by
    rcases Nat.le_total a b with e | e
    · rw [Nat.max_eq_right e]; exact eb
    · rw [Nat.max_eq_left e]; exact ea
  have emin : ∃ w ∈ W, w.1 = min a b ∨ w.2.2 = min a b := by
    rcases Nat.le_total a b with e | e
    · rw [Nat.min_eq_left e]; exact ea
    · rw [Nat.min_eq_right e]; exact eb
  unfold placesIn
  refine filter_len_lt (fun i _ hi => ?_) ⟨max a b, List.mem_range.mpr (lt emax), decide_eq_true emax, decide_eq_false fun z => ?_⟩
  · obtain ⟨j, hj, e⟩ := img i (of_decide_eq_true hi)
    refine decide_eq_true ?_
    unfold mergeR at e
    split at e
    · rw [← e]; exact emin
    · rw [← e]; exact hj
  · obtain ⟨j, hj, e⟩ := img _ z
    unfold mergeR at e
    split at e <;> omega
theorem merge_lt {W W' : List Way} {a b N : Nat} (h : Clash W a b) (k : Img (mergeR a b) W W') (hN : ∀ w ∈ W, w.1 < N ∧ w.2.2 < N) : ∀ w ∈ W', w.1 < N ∧ w.2.2 < N := by
  obtain ⟨hne, p, x, h1, h2⟩ := h
  have lt : ∀ {i : Nat}, (∃ w ∈ W, w.1 = i ∨ w.2.2 = i) → i < N := by
    rintro i ⟨w, hw, e⟩
    have := hN w hw
    omega
  have ea := lt (st_end h1).2
  have eb := lt (st_end h2).2
  intro w hw
  obtain ⟨v, hv, e⟩ := (k w).mp hw
  subst e
  have := hN v hv
  simp only [imgW, mergeR]
  split <;> split <;> omega
theorem places_le (N : Nat) (W : List Way) : placesIn N W ≤ N := by
  unfold placesIn
  refine Nat.le_trans (List.length_filter_le _ _) ?_
  rw [List.length_range]
  exact Nat.le_refl _
/-! ### how many -/
theorem chain_len : ∀ (r : Row) (a b c : Nat), (chainA a b c r).length = r.length
  | [], _, _, _ => rfl
  | [_], _, _, _ => rfl
  | x :: y :: r, a, b, c => by
    simp only [chainA, List.length_cons]
    rw [chain_len (y :: r)]
    rfl
theorem laidL_len : ∀ (rs : List Row) (n : Nat), (laidL n rs).length = (rs.map fun r => (net r).length).sum
  | [], _ => rfl
  | r :: rs, n => by
    simp only [laidL, List.length_append, chain_len, laidL_len rs, List.map_cons, List.sum_cons]
theorem laidLMany_up : ∀ (rs : List Row) (n : Nat), laidLMany n rs ≤ n + (rs.map fun r => (net r).length).sum
  | [], _ => by simp [laidLMany]
  | r :: rs, n => by
    simp only [laidLMany, List.map_cons, List.sum_cons]
    have := laidLMany_up rs (n + ((net r).length - 1))
    omega
theorem fwd_lt {A : List Arr} {n : Nat} (h : ∀ p x q, (p, x, q) ∈ A → p < n ∧ q < n) : ∀ w ∈ fwd A, w.1 < n ∧ w.2.2 < n := by
  rintro ⟨p, d, q⟩ hw
  have h2 : St (fwd A) p ⟨d, false⟩ q := by simpa [St] using hw
  rcases st_fwd.mp h2 with k | k
  · exact h _ _ _ k
  · exact (h _ _ _ k).symm
end Rb
/-! Powers of rows; the least one that is kept. -/
namespace Rb
set_option linter.all false
theorem red_app : ∀ {a b : Row}, Red (a ++ b) ↔ Red a ∧ Red b ∧ ∀ x y, a.getLast? = some x → b.head? = some y → y ≠ x.inv
  | [], b => by
    simp only [List.nil_append]
    exact ⟨fun h => ⟨trivial, h, fun x y hx => by simp at hx⟩, fun h => h.2.1⟩
  | [x], [] => by
    simp only [List.append_nil]
    exact ⟨fun h => ⟨h, trivial, fun x y _ hy => by simp at hy⟩, fun h => h.1⟩
  | [x], y :: b => by
    show (y ≠ x.inv ∧ Red (y :: b)) ↔ True ∧ Red (y :: b) ∧ _
    constructor
    · rintro ⟨h1, h2⟩
      refine ⟨trivial, h2, fun u v hu hv => ?_⟩
      simp at hu hv
      subst hu; subst hv
      exact h1
    · rintro ⟨_, h2, h3⟩
      exact ⟨h3 x y rfl rfl, h2⟩
  | x :: z :: a, b => by
    have ih := red_app (a := z :: a) (b := b)
    show (z ≠ x.inv ∧ Red ((z :: a) ++ b)) ↔ (z ≠ x.inv ∧ Red (z :: a)) ∧ Red b ∧ _
    rw [ih]
    have e : (x :: z :: a).getLast? = (z :: a).getLast? := by simp [List.getLast?_cons_cons]
    rw [e]
    constructor
    · rintro ⟨h1, h2, h3, h4⟩
      exact ⟨⟨h1, h2⟩, h3, h4⟩
    · rintro ⟨⟨h1, h2⟩, h3, h4⟩
      exact ⟨h1, h2, h3, h4⟩
theorem red_adj {r : Row} (h : Red r) {i : Nat} {x y : Lt} (hx : r[i]? = some x) (hy : r[i + 1]? = some y) : y ≠ x.inv := by
  have h1 : r = r.take (i + 1) ++ r.drop (i + 1) := (List.take_append_drop _ _).symm
  rw [h1] at h
  refine (red_app.mp h).2.2 x y ?_ ?_
  · have hl : i + 1 < r.length := (List.getElem?_eq_some_iff.mp hy).1
    rw [List.getLast?_eq_getElem?, List.length_take, List.getElem?_take]
    rw [Nat.min_eq_left (by omega), if_pos (by omega)]
    simpa using hx
  · rw [List.head?_drop]
    exact hy
/-! ### powers -/
def pw (n : Nat) (r : Row) : Row := (List.replicate n r).flatten
theorem pw_zero (r : Row) : pw 0 r = [] := rfl
theorem pw_succ (n : Nat) (r : Row) : pw (n + 1) r = r ++ pw n r := by
  unfold pw
  rw [List.replicate_succ, List.flatten_cons]
theorem pw_add (r : Row) (j : Nat) : ∀ i, pw (i + j) r = pw i r ++ pw j r
  | 0 => by rw [Nat.zero_add, pw_zero, List.nil_append]
  | i + 1 => by
    rw [show i + 1 + j = (i + j) + 1 by omega, pw_succ, pw_add r j i, pw_succ, List.append_assoc]
theorem pw_one (r : Row) : pw 1 r = r := by rw [pw_succ, pw_zero, List.append_nil]
theorem pw_succ' (n : Nat) (r : Row) : pw (n + 1) r = pw n r ++ r := by rw [pw_add, pw_one]
theorem pw_len (n : Nat) (r : Row) : (pw n r).length = n * r.length := by
  induction n with
  | zero => simp [pw_zero]
  | succ n ih => rw [pw_succ, List.length_append, ih, Nat.add_mul, Nat.one_mul, Nat.add_comm]
theorem pw_nil (n : Nat) : pw n [] = [] := by
  induction n with
  | zero => rfl
  | succ n ih => rw [pw_succ, ih]; rfl
theorem invR_pw (n : Nat) (r : Row) : invR (pw n r) = pw n (invR r) := by
  induction n with
  | zero => rfl
  | succ n ih => rw [pw_succ, invR_append, ih, pw_succ']
theorem net_pw_net (n : Nat) (r : Row) : net (pw n (net r)) = net (pw n r) := by
  induction n with
  | zero => rfl
  | succ n ih =>
    rw [pw_succ, pw_succ, ← net_net_right, ih, net_net_left, net_net_right]
theorem mem_pw {n : Nat} {r : Row} {x : Lt} (h : x ∈ pw n r) : x ∈ r := by
  unfold pw at h
  obtain ⟨l, hl, hx⟩ := List.mem_flatten.mp h
  rw [(List.mem_replicate.mp hl).2] at hx
  exact hx
/-- a net as its ends and what is between -/
structure Bent (r a m : Row) : Prop where
  split : r = a ++ (m ++ invR a)
  cyc : Red (m ++ m)
  ne : m = [] → r = []
theorem Bent.pw_net {r a m : Row} (b : Bent r a m) : ∀ n, net (pw n r) = net (a ++ (pw n m ++ invR a))
  | 0 => by
    have := net_word [] a []
    simp only [List.nil_append, List.append_nil] at this
    rw [pw_zero, pw_zero, List.nil_append, this]
  | n + 1 => by
    have e : r ++ (a ++ (pw n m ++ invR a)) = (a ++ m) ++ (invR a ++ (invR (invR a) ++ (pw n m ++ invR a))) := by
      rw [invR_invR]
      conv => lhs; rw [b.split]
      simp only [List.append_assoc]
    rw [pw_succ, ← net_net_right, b.pw_net n, net_net_right, e, net_word, pw_succ]
    simp only [List.append_assoc]
theorem head_app {m n : Row} (hm : m ≠ []) : (m ++ n).head? = m.head? := by
  cases m with
  | nil => exact absurd rfl hm
  | cons x m => rfl
theorem last_app {m n : Row} (hn : n ≠ []) : (m ++ n).getLast? = n.getLast? := by
  rw [List.getLast?_append]
  cases h : n.getLast? with
  | none => exact absurd (List.getLast?_eq_none_iff.mp h) hn
  | some x => rfl
theorem pw_ends {m : Row} (hm : m ≠ []) : ∀ n, (pw (n + 1) m).head? = m.head? ∧ (pw (n + 1) m).getLast? = m.getLast?
  | 0 => by rw [pw_one]; exact ⟨rfl, rfl⟩
  | n + 1 => by
    constructor
    · rw [pw_succ, head_app hm]
    · rw [pw_succ', last_app hm]
theorem red_pw {m : Row} (h : Red (m ++ m)) (hm : m ≠ []) : ∀ n, Red (pw (n + 1) m)
  | 0 => by rw [pw_one]; exact h.left
  | n + 1 => by
    rw [pw_succ]
    obtain ⟨h1, _, h3⟩ := red_app.mp h
    refine red_app.mpr ⟨h1, red_pw h hm n, ?_⟩
    rw [(pw_ends hm n).1]
    exact h3
theorem Bent.pw_red {r a m : Row} (b : Bent r a m) (hr : Red r) (h0 : r ≠ []) (n : Nat) : net (pw (n + 1) r) = a ++ (pw (n + 1) m ++ invR a) := by
  have hm : m ≠ [] := fun z => h0 (b.ne z)
  rw [b.pw_net, net_red]
  rw [b.split] at hr
  obtain ⟨h1, h2, h3⟩ := red_app.mp hr
  obtain ⟨h4, h5, h6⟩ := red_app.mp h2
  have hp : pw (n + 1) m ≠ [] := by
    rw [pw_succ]
    intro z
    exact hm (List.append_eq_nil_iff.mp z).1
  refine red_app.mpr ⟨h1, red_app.mpr ⟨red_pw b.cyc hm n, h5, ?_⟩, ?_⟩
  · rw [(pw_ends hm n).2]
    exact h6
  · rw [head_app hp, (pw_ends hm n).1]
    rw [head_app hm] at h3
    exact h3
/-- how the ends are found -/
theorem bent_make {r : Row} {e : Nat} (hr : Red r) (h2 : 2 * e ≤ r.length) (hp : ∀ j, j < e → ∃ x, r[j]? = some x ∧ r[r.length - 1 - j]? = some x.inv)
    (hx : ¬ (2 * e + 1 < r.length) ∨ ∃ x y, r[e]? = some x ∧ r[r.length - 1 - e]? = some y ∧ x ≠ y.inv) : Bent r (r.take e) ((r.drop e).take (r.length - 2 * e)) ∧ r.drop (r.length - e) = invR (r.take e) := by
  have hend : r.drop (r.length - e) = invR (r.take e) := by
    apply List.ext_getElem?
    intro i
    unfold invR
    by_cases hi : i < e
    · rw [List.getElem?_drop, List.getElem?_reverse (by rw [List.length_map, List.length_take]; omega), List.getElem?_map, List.length_map, List.length_take, Nat.min_eq_left (by omega), List.getElem?_take, if_pos (by omega)]
      obtain ⟨x, h3, h4⟩ := hp (e - 1 - i) (by omega)
      rw [h3]
      rw [show r.length - 1 - (e - 1 - i) = r.length - e + i by omega] at h4
      rw [h4]
      rfl
    · rw [List.getElem?_eq_none (by rw [List.length_drop]; omega), List.getElem?_eq_none (by rw [List.length_reverse, List.length_map, List.length_take]; omega)]
  have hsplit : r = r.take e ++ ((r.drop e).take (r.length - 2 * e) ++ invR (r.take e)) := by
    have e1 : (r.drop e).drop (r.length - 2 * e) = invR (r.take e) := by
      rw [List.drop_drop, ← hend]
      congr 1
      omega
    rw [← e1, List.take_append_drop, List.take_append_drop]
  have hml : ((r.drop e).take (r.length - 2 * e)).length = r.length - 2 * e := by rw [List.length_take, List.length_drop]; omega
  have even : r.length = 2 * e → e = 0 := by
    intro h
    refine Classical.byContradiction fun z => ?_
    obtain ⟨x, h3, h4⟩ := hp (e - 1) (by omega)
    rw [show r.length - 1 - (e - 1) = e - 1 + 1 by omega] at h4
    exact red_adj hr h3 h4 rfl
  refine ⟨⟨hsplit, ?_, ?_⟩, hend⟩
  · generalize hm : (r.drop e).take (r.length - 2 * e) = m at *
    have rm : Red m := by
      rw [hsplit] at hr
      exact (red_app.mp (red_app.mp hr).2.1).1
    refine red_app.mpr ⟨rm, rm, fun x y hx1 hy1 => ?_⟩
    rw [List.getLast?_eq_getElem?] at hx1
    rw [List.head?_eq_getElem?] at hy1
    have hlt : m.length - 1 < m.length := (List.getElem?_eq_some_iff.mp hx1).1
    by_cases h1 : m.length = 1
    · rw [h1] at hx1
      rw [hx1] at hy1
      rw [← Option.some.inj hy1]
      exact fun z => x.inv_ne z.symm
    · rcases hx with hx | ⟨u, v, h3, h4, h5⟩
      · omega
      · have hml3 := hml
        rw [← hm] at hml3
        rw [← hm, List.getElem?_take, if_pos (by omega), List.getElem?_drop] at hx1 hy1
        rw [Nat.add_zero, h3] at hy1
        rw [hm, hml, show e + (r.length - 2 * e - 1) = r.length - 1 - e by omega, h4] at hx1
        rw [← Option.some.inj hx1, ← Option.some.inj hy1]
        exact h5
  · intro z
    rw [z] at hml
    simp at hml
    have : r.length = 2 * e := by omega
    have := even this
    exact List.eq_nil_of_length_eq_zero (by omega)
theorem bent_go {r : Row} (hr : Red r) : ∀ (k e : Nat), r.length - e = k → 2 * e ≤ r.length → (∀ j, j < e → ∃ x, r[j]? = some x ∧ r[r.length - 1 - j]? = some x.inv) → ∃ a m, Bent r a m := by
  intro k
  induction k with
  | zero =>
    intro e hk h2 hp
    exact ⟨_, _, (bent_make hr h2 hp (.inl (by omega))).1⟩
  | succ k ih =>
    intro e hk h2 hp
    by_cases c : 2 * e + 1 < r.length
    · obtain ⟨x, hx⟩ : ∃ x, r[e]? = some x := ⟨_, List.getElem?_eq_getElem (by omega)⟩
      obtain ⟨y, hy⟩ : ∃ y, r[r.length - 1 - e]? = some y := ⟨_, List.getElem?_eq_getElem (by omega)⟩
      by_cases c2 : x = y.inv
      · refine ih (e + 1) (by omega) (by omega) fun j hj => ?_
        by_cases hje : j = e
        · subst hje
          exact ⟨x, hx, by rw [hy, c2, Lt.inv_inv]⟩
        · exact hp j (by omega)
      · exact ⟨_, _, (bent_make hr h2 hp (.inr ⟨x, y, hx, hy, c2⟩)).1⟩
    · exact ⟨_, _, (bent_make hr h2 hp (.inl c)).1⟩
theorem bent_ex {r : Row} (hr : Red r) : ∃ a m, Bent r a m := bent_go hr r.length 0 (by omega) (by omega) fun j hj => by omega
/-! ### reading powers -/
theorem walkD_app (δ : Nat → Lt → Option Nat) : ∀ (a b : Row) (p : Nat), walkD δ p (a ++ b) = (walkD δ p a).bind fun q => walkD δ q b
  | [], b, p => rfl
  | x :: a, b, p => by
    show (δ p x).bind (fun q => walkD δ q (a ++ b)) = ((δ p x).bind fun q => walkD δ q a).bind fun q => walkD δ q b
    cases δ p x with
    | none => rfl
    | some q => exact walkD_app δ a b q
/-- where m so often leads -/
def itD (δ : Nat → Lt → Option Nat) (m : Row) (n p : Nat) : Option Nat := walkD δ p (pw n m)
theorem itD_zero (δ : Nat → Lt → Option Nat) (m : Row) (p : Nat) : itD δ m 0 p = some p := rfl
theorem itD_succ (δ : Nat → Lt → Option Nat) (m : Row) (n p : Nat) : itD δ m (n + 1) p = (itD δ m n p).bind fun q => walkD δ q m := by
  unfold itD
  rw [pw_succ', walkD_app]
theorem itD_none {δ : Nat → Lt → Option Nat} {m : Row} {n p : Nat} (h : itD δ m n p = none) : ∀ k, itD δ m (n + k) p = none
  | 0 => h
  | k + 1 => by
    rw [show n + (k + 1) = (n + k) + 1 by omega, itD_succ, itD_none h k]
    rfl
theorem kept_pw {W : List Way} (D : Det W) {r a m : Row} (b : Bent r a m) (hr : Red r) (h0 : r ≠ []) (n : Nat) :
    walkD (stepsD W) 0 (net (pw (n + 1) r)) = some 0 ↔ ∃ st, walkD (stepsD W) 0 a = some st ∧ itD (stepsD W) m (n + 1) st = some st := by
  have F := fits_steps D
  rw [b.pw_red hr h0, walkD_iff F, walk_append]
  constructor
  · rintro ⟨s, h1, h2⟩
    obtain ⟨t, h3, h4⟩ := walk_append.mp h2
    have h5 := h4.back
    rw [invR_invR] at h5
    have e := D.walk h5 h1
    subst e
    exact ⟨t, (walkD_iff F).mpr h1, (walkD_iff F).mpr h3⟩
  · rintro ⟨s, h1, h2⟩
    have h3 := (walkD_iff F).mp h1
    exact ⟨s, h3, walk_append.mpr ⟨s, (walkD_iff F).mp h2, h3.back⟩⟩
theorem walk_lt {W : List Way} {N : Nat} (h : ∀ w ∈ W, w.1 < N ∧ w.2.2 < N) : ∀ {r : Row} {p q : Nat}, p < N → Walk W p r q → q < N
  | [], p, q, hp, e => by rw [← (show p = q from e)]; exact hp
  | x :: r, p, q, hp, ⟨t, h1, h2⟩ => by
    refine walk_lt h ?_ h2
    obtain ⟨w, hw, e⟩ := (st_end h1).2
    have := h w hw
    omega
/-- places by repeating that do not come back are unlike -/
theorem it_bound {W : List Way} (D : Det W) {N : Nat} (hN : ∀ w ∈ W, w.1 < N ∧ w.2.2 < N) {m : Row} {st p n : Nat} (hst : st < N) (hn : ∀ k, 1 ≤ k → k ≤ n → itD (stepsD W) m k st ≠ some st) (hp : itD (stepsD W) m n st = some p) : n + 1 ≤ N := by
  have F := fits_steps D
  have ex : ∀ i, i ≤ n → ∃ q, itD (stepsD W) m i st = some q := by
    intro i hi
    cases e : itD (stepsD W) m i st with
    | some q => exact ⟨q, rfl⟩
    | none =>
      have := itD_none e (n - i)
      rw [show i + (n - i) = n by omega, hp] at this
      cases this
  have lt : ∀ i q, itD (stepsD W) m i st = some q → q < N := fun i q h => walk_lt hN hst ((walkD_iff F).mp h)
  have inj : ∀ i j, i < j → j ≤ n → itD (stepsD W) m i st = itD (stepsD W) m j st → False := by
    intro i j hij hj e
    obtain ⟨q, hq⟩ := ex i (by omega)
    have hq2 : itD (stepsD W) m j st = some q := by rw [← e]; exact hq
    have h1 := (walkD_iff F).mp hq
    have h2 := (walkD_iff F).mp hq2
    rw [show j = (j - i) + i by omega, pw_add] at h2
    obtain ⟨t, h3, h4⟩ := walk_append.mp h2
    have e2 := D.walk h4.back h1.back
    subst e2
    exact hn (j - i) (by omega) (by omega) ((walkD_iff F).mpr h3)
  have hnd : ((List.range (n + 1)).map fun i => (itD (stepsD W) m i st).getD 0).Nodup := by
    refine nodup_map_on (fun a ha b hb e => ?_) List.nodup_range
    have ha2 := List.mem_range.mp ha
    have hb2 := List.mem_range.mp hb
    obtain ⟨x, hx⟩ := ex a (by omega)
    obtain ⟨y, hy⟩ := ex b (by omega)
    rw [hx, hy] at e
    have exy : x = y := e
    subst exy
    rcases Nat.lt_trichotomy a b with h | h | h
    · exact (inj a b h (by omega) (by rw [hx, hy])).elim
    · exact h
    · exact (inj b a h (by omega) (by rw [hx, hy])).elim
  have hsub := hnd.length_le_of_subset (l₂ := List.range N) (fun x hx => by
    obtain ⟨i, hi, e⟩ := List.mem_map.mp hx
    have hi2 := List.mem_range.mp hi
    obtain ⟨q, hq⟩ := ex i (by omega)
    rw [hq] at e
    have := lt i q hq
    exact List.mem_range.mpr (by rw [← e]; exact this))
  rw [List.length_map, List.length_range, List.length_range] at hsub
  exact hsub
/-! ### the least number -/
def LP (pr : Nat → Prop) : Option Nat → Prop
  | some n => 1 ≤ n ∧ pr n ∧ ∀ k, 1 ≤ k → k < n → ¬ pr k
  | none => ∀ k, 1 ≤ k → ¬ pr k
theorem LP.unique {pr : Nat → Prop} : ∀ {a b : Option Nat}, LP pr a → LP pr b → a = b
  | none, none, _, _ => rfl
  | some n, none, h, k => (k n h.1 h.2.1).elim
  | none, some n, h, k => (h n k.1 k.2.1).elim
  | some n, some m, h, k => by
    rcases Nat.lt_trichotomy n m with e | e | e
    · exact (k.2.2 n h.1 e h.2.1).elim
    · rw [e]
    · exact (h.2.2 m k.1 e k.2.1).elim
theorem LP.iff {pr pr' : Nat → Prop} (h : ∀ n, pr n ↔ pr' n) : ∀ {a : Option Nat}, LP pr a → LP pr' a
  | none, k => fun n hn z => k n hn ((h n).mpr z)
  | some n, k => ⟨k.1, (h n).mp k.2.1, fun m h1 h2 z => k.2.2 m h1 h2 ((h m).mpr z)⟩
/-- whether the row so often is kept -/
def keptP (W : List Way) (r : Row) (n : Nat) : Prop := walkD (stepsD W) 0 (net (pw n r)) = some 0
theorem keptP_inv {W : List Way} (D : Det W) (r : Row) (n : Nat) : keptP W (invR r) n ↔ keptP W r n := by
  have F := fits_steps D
  have key : ∀ s : Row, walkD (stepsD W) 0 (net (pw n s)) = some 0 → walkD (stepsD W) 0 (net (pw n (invR s))) = some 0 := by
    intro s h
    rw [← invR_pw, net_inv]
    exact (walkD_iff F).mpr ((walkD_iff F).mp h).back
  constructor
  · intro h
    have := key _ h
    rwa [invR_invR] at this
  · exact key r
theorem keptP_net (W : List Way) (r : Row) (n : Nat) : keptP W (net r) n ↔ keptP W r n := by
  unfold keptP
  rw [net_pw_net]
theorem keptP_nil (W : List Way) (n : Nat) : keptP W [] n := by
  unfold keptP
  rw [pw_nil]
  rfl
theorem keptP_one (W : List Way) (r : Row) : keptP W r 1 ↔ keptB W r = true := by
  unfold keptP keptB
  rw [pw_one, decide_eq_true_iff]
/-- a least number is at most that of the places -/
theorem lp_size {W : List Way} (D : Det W) {N : Nat} (h0 : 0 < N) (hN : ∀ w ∈ W, w.1 < N ∧ w.2.2 < N) {r a m : Row} (b : Bent r a m) (hr : Red r) {n : Nat} (h : LP (keptP W r) (some n)) : n ≤ N := by
  obtain ⟨h1, h2, h3⟩ := h
  by_cases e : r = []
  · subst e
    refine Classical.byContradiction fun z => h3 1 (Nat.le_refl _) (by omega) (keptP_nil W 1)
  · obtain ⟨k, rfl⟩ : ∃ k, n = k + 1 := ⟨n - 1, by omega⟩
    obtain ⟨st, s1, s2⟩ := (kept_pw D b hr e k).mp h2
    have hst : st < N := walk_lt hN h0 ((walkD_iff (fits_steps D)).mp s1)
    cases e2 : itD (stepsD W) m k st with
    | none =>
      rw [itD_succ, e2] at s2
      cases s2
    | some p =>
      refine it_bound D hN hst (fun j j1 j2 z => ?_) e2
      obtain ⟨i, rfl⟩ : ∃ i, j = i + 1 := ⟨j - 1, by omega⟩
      exact h3 (i + 1) j1 (by omega) ((kept_pw D b hr e i).mpr ⟨st, s1, z⟩)
theorem least_of {pr : Nat → Prop} : ∀ n, 1 ≤ n → pr n → ∃ m, LP pr (some m) := by
  intro n
  induction n using Nat.strongRecOn with
  | _ n ih =>
    intro h1 h2
    by_cases h : ∃ k, 1 ≤ k ∧ k < n ∧ pr k
    · obtain ⟨k, k1, k2, k3⟩ := h
      exact ih k k2 k1 k3
    · exact ⟨n, h1, h2, fun k k1 k2 k3 => h ⟨k, k1, k2, k3⟩⟩
theorem lp_ex (pr : Nat → Prop) : ∃ o, LP pr o := by
  by_cases h : ∃ n, 1 ≤ n ∧ pr n
  · obtain ⟨n, h1, h2⟩ := h
    obtain ⟨m, hm⟩ := least_of n h1 h2
    exact ⟨some m, hm⟩
  · exact ⟨none, fun k k1 k2 => h ⟨k, k1, k2⟩⟩
/-- a least number is at most that of the places, whatever the row -/
theorem lp_le {W : List Way} (D : Det W) {N : Nat} (h0 : 0 < N) (hN : ∀ w ∈ W, w.1 < N ∧ w.2.2 < N) {r : Row} {n : Nat} (h : LP (keptP W r) (some n)) : n ≤ N := by
  obtain ⟨a, m, b⟩ := bent_ex (red_net r)
  exact lp_size D h0 hN b (red_net r) (h.iff fun k => (keptP_net W r k).symm)
end Rb
/-! Worlds as data: each deed a permutation; ways filled up to a world; places grown for rows. -/
namespace Rb
/-- a world: each deed's places -/
structure Wd where
  size : Nat
  mv : Fin 26 → List Nat
def mvL (m : Wd) (x : Lt) : List Nat := if x.u = true then (List.range m.size).map fun q => (m.mv x.d).idxOf q else m.mv x.d
def mvD (m : Wd) (p : Nat) (x : Lt) : Nat := (mvL m x).getD p 0
def goM (m : Wd) : Nat → Row → Nat
  | p, [] => p
  | p, x :: r => goM m (mvD m p x) r
structure WdOk (m : Wd) (ds : List (Fin 26)) : Prop where
  pos : 0 < m.size
  perm : ∀ d ∈ ds, (m.mv d).Perm (List.range m.size)
theorem perm_range {l : List Nat} {n : Nat} (nd : l.Nodup) (hl : l.length = n) (h : ∀ x ∈ l, x < n) : l.Perm (List.range n) := by
  refine (List.perm_ext_iff_of_nodup nd List.nodup_range).mpr fun x => ⟨fun hx => List.mem_range.mpr (h x hx), fun hx => ?_⟩
  rcases Classical.em (x ∈ l) with z | z
  · exact z
  · have h2 : (x :: l).Nodup := List.nodup_cons.mpr ⟨z, nd⟩
    have h3 := h2.length_le_of_subset (l₂ := List.range n) fun y hy => by
      rcases List.mem_cons.mp hy with e | hy
      · rw [e]; exact hx
      · exact List.mem_range.mpr (h y hy)
    rw [List.length_cons, List.length_range, hl] at h3
    omega
section
variable {m : Wd} {ds : List (Fin 26)}
theorem WdOk.len (h : WdOk m ds) {d : Fin 26} (hd : d ∈ ds) : (m.mv d).length = m.size := by rw [(h.perm d hd).length_eq, List.length_range]
theorem WdOk.lenL (h : WdOk m ds) {x : Lt} (hd : x.d ∈ ds) : (mvL m x).length = m.size := by
  unfold mvL
  split
  · rw [List.length_map, List.length_range]
  · exact h.len hd
theorem WdOk.nd (h : WdOk m ds) {d : Fin 26} (hd : d ∈ ds) : (m.mv d).Nodup := (h.perm d hd).nodup_iff.mpr List.nodup_range
theorem getD_at {l : List Nat} {p v : Nat} (h : l[p]? = some v) : l.getD p 0 = v := by
  rw [List.getD_eq_getElem?_getD, h]
  rfl
theorem mvL_at (h : WdOk m ds) {x : Lt} (hd : x.d ∈ ds) {p : Nat} (hp : p < m.size) : (mvL m x)[p]? = some (mvD m p x) := by
  have hl := h.lenL hd
  rw [mvD, List.getD_eq_getElem?_getD, List.getElem?_eq_getElem (by omega)]
  rfl
theorem mvD_true {d : Fin 26} {p : Nat} (hp : p < m.size) : mvD m p ⟨d, true⟩ = (m.mv d).idxOf p := by
  refine getD_at ?_
  show ((List.range m.size).map fun q => (m.mv d).idxOf q)[p]? = _
  rw [List.getElem?_map, List.getElem?_range hp]
  rfl
theorem mvD_false {d : Fin 26} {p : Nat} : mvD m p ⟨d, false⟩ = (m.mv d).getD p 0 := rfl
theorem mvD_lt (h : WdOk m ds) {x : Lt} (hd : x.d ∈ ds) {p : Nat} (hp : p < m.size) : mvD m p x < m.size := by
  obtain ⟨d, u⟩ := x
  have hm : ∀ q, q ∈ m.mv d ↔ q < m.size := fun q => by rw [(h.perm d hd).mem_iff, List.mem_range]
  cases u with
  | true =>
    rw [mvD_true hp]
    have := List.idxOf_lt_length_of_mem ((hm p).mpr hp)
    rw [h.len hd] at this
    exact this
  | false =>
    have h1 := mvL_at h hd (x := ⟨d, false⟩) hp
    exact (hm _).mp (List.mem_of_getElem? h1)
theorem mvD_inv (h : WdOk m ds) {x : Lt} (hd : x.d ∈ ds) {p : Nat} (hp : p < m.size) : mvD m (mvD m p x) x.inv = p := by
  obtain ⟨d, u⟩ := x
  have hm : ∀ q, q ∈ m.mv d ↔ q < m.size := fun q => by rw [(h.perm d hd).mem_iff, List.mem_range]
  cases u with
  | true =>
    show mvD m (mvD m p ⟨d, true⟩) ⟨d, false⟩ = p
    rw [mvD_true hp]
    refine getD_at ?_
    show (m.mv d)[(m.mv d).idxOf p]? = some p
    have hi := List.idxOf_lt_length_of_mem ((hm p).mpr hp)
    rw [List.getElem?_eq_getElem hi, List.getElem_idxOf hi]
  | false =>
    show mvD m (mvD m p ⟨d, false⟩) ⟨d, true⟩ = p
    have h1 := mvL_at h hd (x := ⟨d, false⟩) hp
    rw [mvD_true (mvD_lt h hd (x := ⟨d, false⟩) hp)]
    generalize mvD m p ⟨d, false⟩ = q at h1
    have h2 : (m.mv d)[p]? = some q := h1
    obtain ⟨hl, e⟩ := List.getElem?_eq_some_iff.mp h2
    have hq : q ∈ m.mv d := List.mem_of_getElem? h2
    have hi := List.idxOf_lt_length_of_mem hq
    have e2 : (m.mv d)[(m.mv d).idxOf q] = q := List.getElem_idxOf hi
    rcases Nat.lt_trichotomy ((m.mv d).idxOf q) p with z | z | z
    · exact absurd (e2.trans e.symm) (List.pairwise_iff_getElem.mp (h.nd hd) _ _ hi hl z)
    · exact z
    · exact absurd (e.trans e2.symm) (List.pairwise_iff_getElem.mp (h.nd hd) _ _ hl hi z)
theorem goM_app (m : Wd) : ∀ (a b : Row) (p : Nat), goM m p (a ++ b) = goM m (goM m p a) b
  | [], _, _ => rfl
  | x :: a, b, p => goM_app m a b (mvD m p x)
theorem goM_lt (h : WdOk m ds) : ∀ {r : Row} {p : Nat}, (∀ x ∈ r, x.d ∈ ds) → p < m.size → goM m p r < m.size
  | [], _, _, hp => hp
  | x :: r, _, hr, hp => goM_lt h (r := r) (fun y hy => hr y (List.mem_cons_of_mem _ hy)) (mvD_lt h (hr x (by simp)) hp)
theorem goM_stack (h : WdOk m ds) : ∀ {r s : Row} {p : Nat}, (∀ x ∈ r, x.d ∈ ds) → (∀ x ∈ s, x.d ∈ ds) → p < m.size → goM m p (run s r).reverse = goM m p (s.reverse ++ r)
  | [], s, p, _, _, _ => by rw [run_nil, List.append_nil]
  | x :: r, s, p, hr, hs, hp => by
    rw [run_cons]
    have hx := hr x (by simp)
    have hr' : ∀ y ∈ r, y.d ∈ ds := fun y hy => hr y (List.mem_cons_of_mem _ hy)
    cases s with
    | nil =>
      rw [show push [] x = [x] from rfl, goM_stack h hr' (by simpa using hx) hp]
      rfl
    | cons y s =>
      have hs' : ∀ z ∈ s, z.d ∈ ds := fun z hz => hs z (List.mem_cons_of_mem _ hz)
      by_cases e : y = x.inv
      · have e1 : push (y :: s) x = s := by simp [push, e]
        rw [e1, goM_stack h hr' hs' hp, List.reverse_cons, List.append_assoc, goM_app, goM_app]
        have hq : goM m p s.reverse < m.size := goM_lt h (fun z hz => hs' z (by simpa using hz)) hp
        generalize goM m p s.reverse = q at hq ⊢
        show goM m q r = goM m (mvD m (mvD m q y) x) r
        have hy : y.d ∈ ds := hs y (by simp)
        rw [show x = y.inv by rw [e, Lt.inv_inv], mvD_inv h hy hq]
      · have e1 : push (y :: s) x = x :: y :: s := by simp [push, e]
        rw [e1, goM_stack h hr' (fun z hz => by
          rcases List.mem_cons.mp hz with z1 | z1
          · rw [z1]; exact hx
          · exact hs z z1) hp, List.reverse_cons, List.append_assoc]
        rfl
theorem goM_net (h : WdOk m ds) {r : Row} {p : Nat} (hr : ∀ x ∈ r, x.d ∈ ds) (hp : p < m.size) : goM m p (net r) = goM m p r := goM_stack h (s := []) hr (by simp) hp
/-- the world does what the ways do -/
def Ext (W : List Way) (m : Wd) : Prop := ∀ p x q, St W p x q → mvD m p x = q
theorem Ext.walk {W : List Way} (e : Ext W m) : ∀ {r : Row} {p q : Nat}, Walk W p r q → goM m p r = q
  | [], _, _, h => h
  | x :: r, p, q, ⟨t, h1, h2⟩ => by
    show goM m (mvD m p x) r = q
    rw [e _ _ _ h1]
    exact e.walk h2
end
/-! ### the start of a string of places -/
def backE (δ : Nat → Lt → Option Nat) (d : Fin 26) : Nat → Nat → Nat
  | 0, p => p
  | k + 1, p => match δ p ⟨d, true⟩ with
    | none => p
    | some q => backE δ d k q
/-- going back from p by the deed comes to e, and no further -/
inductive Back (δ : Nat → Lt → Option Nat) (d : Fin 26) : Nat → Nat → Nat → Prop
  | stop {p : Nat} (h : δ p ⟨d, true⟩ = none) : Back δ d 0 p p
  | on {k p q e : Nat} (h : δ p ⟨d, true⟩ = some q) (t : Back δ d k q e) : Back δ d (k + 1) p e
theorem Back.walk {W : List Way} (D : Det W) {d : Fin 26} {k p e : Nat} (h : Back (stepsD W) d k p e) : Walk W p (pw k [⟨d, true⟩]) e ∧ stepsD W e ⟨d, true⟩ = none := by
  induction h with
  | stop h => exact ⟨rfl, h⟩
  | on h _ ih =>
    refine ⟨?_, ih.2⟩
    rw [pw_succ]
    exact ⟨_, (fits_steps D _ _ _).mp h, ih.1⟩
theorem back_ex {W : List Way} (D : Det W) {N : Nat} (hN : ∀ w ∈ W, w.1 < N ∧ w.2.2 < N) {d : Fin 26} {p : Nat} (hp : p < N) (h0 : stepsD W p ⟨d, false⟩ = none) : ∃ k, k < N ∧ Back (stepsD W) d k p (backE (stepsD W) d N p) := by
  have F := fits_steps D
  have hne : ∀ k, 1 ≤ k → itD (stepsD W) [⟨d, true⟩] k p ≠ some p := by
    intro k hk e
    obtain ⟨j, rfl⟩ : ∃ j, k = j + 1 := ⟨k - 1, by omega⟩
    rw [itD_succ] at e
    cases e2 : itD (stepsD W) [⟨d, true⟩] j p with
    | none => rw [e2] at e; cases e
    | some q =>
      rw [e2] at e
      have h1 : Walk W q [⟨d, true⟩] p := (walkD_iff F).mp e
      have h2 := (walk_one.mp h1).back
      have h3 : stepsD W p ⟨d, false⟩ = some q := (F _ _ _).mpr h2
      rw [h0] at h3
      cases h3
  have key : ∀ (n j q : Nat), itD (stepsD W) [⟨d, true⟩] j p = some q → j + n = N → ∃ k, Back (stepsD W) d k q (backE (stepsD W) d n q) ∧ k ≤ n := by
    intro n
    induction n with
    | zero =>
      intro j q hq hj
      have := it_bound D hN hp (fun k h1 _ => hne k h1) hq
      omega
    | succ n ih =>
      intro j q hq hj
      cases e : stepsD W q ⟨d, true⟩ with
      | none =>
        refine ⟨0, ?_, Nat.zero_le _⟩
        unfold backE
        rw [e]
        exact .stop e
      | some t =>
        have h1 : itD (stepsD W) [⟨d, true⟩] (j + 1) p = some t := by
          rw [itD_succ, hq]
          show walkD (stepsD W) q [⟨d, true⟩] = some t
          exact (walkD_iff F).mpr (walk_one.mpr ((F _ _ _).mp e))
        obtain ⟨k, h2, h3⟩ := ih (j + 1) t h1 (by omega)
        refine ⟨k + 1, ?_, by omega⟩
        unfold backE
        rw [e]
        exact .on e h2
  obtain ⟨k, h1, h2⟩ := key N 0 p rfl (by omega)
  refine ⟨k, ?_, h1⟩
  have hk : itD (stepsD W) [⟨d, true⟩] k p = some (backE (stepsD W) d N p) := (walkD_iff F).mpr (h1.walk D).1
  have := it_bound D hN hp (fun j h1 _ => hne j h1) hk
  omega
/-- where the deed leads the place when all is filled up -/
def fillD (δ : Nat → Lt → Option Nat) (d : Fin 26) (n p : Nat) : Nat := match δ p ⟨d, false⟩ with
  | some q => q
  | none => backE δ d n p
def fillW (W : List Way) (n : Nat) : Wd := ⟨n, fun d => (List.range n).map (fillD (stepsD W) d n)⟩
theorem fillD_lt {W : List Way} (D : Det W) {N : Nat} (hN : ∀ w ∈ W, w.1 < N ∧ w.2.2 < N) {d : Fin 26} {p : Nat} (hp : p < N) : fillD (stepsD W) d N p < N := by
  unfold fillD
  cases e : stepsD W p ⟨d, false⟩ with
  | some q =>
    obtain ⟨w, hw, h⟩ := (st_end ((fits_steps D _ _ _).mp e)).2
    have := hN w hw
    show q < N
    omega
  | none =>
    obtain ⟨k, _, h⟩ := back_ex D hN hp e
    exact walk_lt hN hp (h.walk D).1
theorem fillD_inj {W : List Way} (D : Det W) {N : Nat} (hN : ∀ w ∈ W, w.1 < N ∧ w.2.2 < N) {d : Fin 26} {p p' : Nat} (hp : p < N) (hp' : p' < N) (h : fillD (stepsD W) d N p = fillD (stepsD W) d N p') : p = p' := by
  have F := fits_steps D
  have mix : ∀ {p p' q : Nat}, p' < N → stepsD W p ⟨d, false⟩ = some q → stepsD W p' ⟨d, false⟩ = none → q = backE (stepsD W) d N p' → False := by
    intro p p' q hp' e e' h
    obtain ⟨k, _, hb⟩ := back_ex D hN hp' e'
    have h1 := (hb.walk D).2
    rw [← h] at h1
    have h2 : stepsD W q ⟨d, true⟩ = some p := (F _ _ _).mpr ((F _ _ _).mp e).back
    rw [h1] at h2
    cases h2
  have low : ∀ {p p' k k' e : Nat}, k ≤ k' → stepsD W p ⟨d, false⟩ = none → Walk W p (pw k [⟨d, true⟩]) e → Walk W p' (pw k' [⟨d, true⟩]) e → p = p' := by
    intro p p' k k' e hk h0 h1 h2
    obtain ⟨j, rfl⟩ : ∃ j, k' = j + k := ⟨k' - k, by omega⟩
    have b1 := h1.back
    rw [pw_add] at h2
    obtain ⟨t, h3, h4⟩ := walk_append.mp h2
    have et := D.walk b1 h4.back
    subst et
    cases j with
    | zero => exact (show p' = p from h3).symm
    | succ j =>
      rw [pw_succ'] at h3
      obtain ⟨s, h5, h6⟩ := walk_append.mp h3
      have h7 : stepsD W p ⟨d, false⟩ = some s := (F _ _ _).mpr (walk_one.mp h6).back
      rw [h0] at h7
      cases h7
  unfold fillD at h
  cases e : stepsD W p ⟨d, false⟩ with
  | some q =>
    cases e' : stepsD W p' ⟨d, false⟩ with
    | some q' =>
      rw [e, e'] at h
      have hq : q = q' := h
      subst hq
      exact D _ _ _ _ ((F _ _ _).mp e).back ((F _ _ _).mp e').back
    | none =>
      rw [e, e'] at h
      exact (mix hp' e e' h).elim
  | none =>
    cases e' : stepsD W p' ⟨d, false⟩ with
    | some q' =>
      rw [e, e'] at h
      exact (mix hp e' e h.symm).elim
    | none =>
      rw [e, e'] at h
      have hq : backE (stepsD W) d N p = backE (stepsD W) d N p' := h
      obtain ⟨k, _, hb⟩ := back_ex D hN hp e
      obtain ⟨k', _, hb'⟩ := back_ex D hN hp' e'
      have h1 := (hb.walk D).1
      have h2 := (hb'.walk D).1
      rw [← hq] at h2
      rcases Nat.le_total k k' with z | z
      · exact low z e h1 h2
      · exact (low z e' h2 h1).symm
theorem fill_ok {W : List Way} (D : Det W) {N : Nat} (h0 : 0 < N) (hN : ∀ w ∈ W, w.1 < N ∧ w.2.2 < N) (ds : List (Fin 26)) : WdOk (fillW W N) ds where
  pos := h0
  perm := fun d _ => by
    refine perm_range (nodup_map_on (fun a ha b hb e => fillD_inj D hN (List.mem_range.mp ha) (List.mem_range.mp hb) e) List.nodup_range) (show ((List.range N).map (fillD (stepsD W) d N)).length = N by rw [List.length_map, List.length_range]) fun x hx => ?_
    obtain ⟨p, hp, rfl⟩ := List.mem_map.mp hx
    exact fillD_lt D hN (List.mem_range.mp hp)
theorem fill_ext {W : List Way} (D : Det W) {N : Nat} (h0 : 0 < N) (hN : ∀ w ∈ W, w.1 < N ∧ w.2.2 < N) : Ext W (fillW W N) := by
  have fw : ∀ p d q, St W p ⟨d, false⟩ q → mvD (fillW W N) p ⟨d, false⟩ = q := by
    intro p d q h
    obtain ⟨w, hw, hp⟩ := (st_end h).1
    have hlt := hN w hw
    have hp2 : p < N := by omega
    refine getD_at ?_
    show ((List.range N).map (fillD (stepsD W) d N))[p]? = some q
    rw [List.getElem?_map, List.getElem?_range hp2]
    show some (fillD (stepsD W) d N p) = some q
    unfold fillD
    rw [(fits_steps D _ _ _).mpr h]
  intro p x q h
  obtain ⟨d, u⟩ := x
  cases u with
  | false => exact fw p d q h
  | true =>
    have h1 := fw q d p h.back
    have hq : q < N := by
      obtain ⟨w, hw, hp⟩ := (st_end h).2
      have hlt := hN w hw
      omega
    have h2 := mvD_inv (fill_ok D h0 hN [d]) (x := ⟨d, false⟩) (by simp) (p := q) hq
    rw [h1] at h2
    exact h2
/-! ### places grown for rows -/
/-- the ways, their number of places -/
structure Gw where
  n : Nat
  W : List Way
def growS (g : Gw) (p : Nat) (x : Lt) : Gw × Nat := match stepsD g.W p x with
  | some q => (g, q)
  | none => (⟨g.n + 1, g.W ++ [fwd1 (p, x, g.n)]⟩, g.n)
def growR : Gw → Nat → Row → Gw × Nat
  | g, p, [] => (g, p)
  | g, p, x :: r => growR (growS g p x).1 (growS g p x).2 r
structure GwOk (g : Gw) : Prop where
  det : Det g.W
  lt : ∀ w ∈ g.W, w.1 < g.n ∧ w.2.2 < g.n
theorem st_fwd1 {p q p' q' : Nat} {x y : Lt} : St [fwd1 (p, x, q)] p' y q' ↔ (p' = p ∧ y = x ∧ q' = q) ∨ (p' = q ∧ y = x.inv ∧ q' = p) := by
  obtain ⟨d, u⟩ := x
  obtain ⟨d', u'⟩ := y
  cases u <;> cases u' <;> simp [St, fwd1, Lt.inv, and_assoc, and_comm, and_left_comm, eq_comm]
theorem st_app {W V : List Way} {p q : Nat} {x : Lt} : St (W ++ V) p x q ↔ St W p x q ∨ St V p x q := by
  unfold St
  split <;> simp
/-- one more step -/
structure Grown1 (g g' : Gw) : Prop where
  ok : GwOk g'
  le : g.n ≤ g'.n
  sub : ∀ w ∈ g.W, w ∈ g'.W
  /-- nets between old places lead as before -/
  old : ∀ u p q, Red u → p < g.n → q < g.n → Walk g'.W p u q → Walk g.W p u q
theorem Grown1.refl {g : Gw} (h : GwOk g) : Grown1 g g := ⟨h, Nat.le_refl _, fun _ h => h, fun _ _ _ _ _ _ h => h⟩
theorem Grown1.trans {a b c : Gw} (h : Grown1 a b) (k : Grown1 b c) : Grown1 a c :=
  ⟨k.ok, Nat.le_trans h.le k.le, fun w hw => k.sub w (h.sub w hw), fun u p q hu hp hq hw => h.old u p q hu hp hq (k.old u p q hu (Nat.lt_of_lt_of_le hp h.le) (Nat.lt_of_lt_of_le hq h.le) hw)⟩
theorem st_sub {W V : List Way} (h : ∀ w ∈ W, w ∈ V) {p q : Nat} {x : Lt} (k : St W p x q) : St V p x q := by
  unfold St at k ⊢
  split <;> simp_all
theorem leaf_walk {g : Gw} (h : GwOk g) {p0 : Nat} {x : Lt} (hp0 : p0 < g.n) : ∀ {u : Row} {p q : Nat}, Red u → q < g.n → Walk (g.W ++ [fwd1 (p0, x, g.n)]) p u q → (p < g.n → Walk g.W p u q) ∧ (p = g.n → ∃ u', u = x.inv :: u')
  | [], p, q, _, hq, hw => ⟨fun _ => hw, fun e => by rw [e] at hw; have : g.n = q := hw; omega⟩
  | y :: u, p, q, hr, hq, ⟨t, h1, h2⟩ => by
    obtain ⟨i1, i2⟩ := leaf_walk h hp0 hr.tail hq h2
    rcases st_app.mp h1 with z | z
    · obtain ⟨w, hw, e⟩ := (st_end z).1
      have l1 := h.lt w hw
      obtain ⟨w', hw', e'⟩ := (st_end z).2
      have l2 := h.lt w' hw'
      exact ⟨fun _ => ⟨t, z, i1 (by omega)⟩, fun e => by omega⟩
    · rcases st_fwd1.mp z with ⟨rfl, rfl, rfl⟩ | ⟨rfl, rfl, rfl⟩
      · obtain ⟨u', rfl⟩ := i2 rfl
        exact absurd rfl hr.1
      · exact ⟨fun e => by omega, fun _ => ⟨u, rfl⟩⟩
theorem growS_ok {g : Gw} (h : GwOk g) {p : Nat} {x : Lt} (hp : p < g.n) : Grown1 g (growS g p x).1 ∧ (growS g p x).2 < (growS g p x).1.n ∧ St (growS g p x).1.W p x (growS g p x).2 ∧ (growS g p x).1.n ≤ g.n + 1 ∧ (growS g p x).1.W.length ≤ g.W.length + 1 := by
  have F := fits_steps h.det
  unfold growS
  cases e : stepsD g.W p x with
  | some q =>
    have hs := (F _ _ _).mp e
    obtain ⟨w, hw, hq⟩ := (st_end hs).2
    have := h.lt w hw
    exact ⟨.refl h, by show q < g.n; omega, hs, Nat.le_succ _, Nat.le_succ _⟩
  | none =>
    have hno : ∀ q, ¬ St g.W p x q := fun q hs => by
      have := (F _ _ _).mpr hs
      rw [e] at this
      cases this
    have hfar : ∀ y q, ¬ St g.W g.n y q := fun y q hs => by
      obtain ⟨w, hw, hq⟩ := (st_end hs).1
      have := h.lt w hw
      omega
    refine ⟨⟨⟨?_, ?_⟩, Nat.le_succ _, fun w hw => List.mem_append_left _ hw, fun u a b hu ha hb hw => (leaf_walk h hp hu hb hw).1 ha⟩, Nat.lt_succ_self _, st_app.mpr (.inr (st_fwd1.mpr (.inl ⟨rfl, rfl, rfl⟩))), Nat.le_refl _, by simp⟩
    · intro a y b b' h1 h2
      rcases st_app.mp h1 with z1 | z1 <;> rcases st_app.mp h2 with z2 | z2
      · exact h.det _ _ _ _ z1 z2
      · rcases st_fwd1.mp z2 with ⟨rfl, rfl, rfl⟩ | ⟨rfl, rfl, rfl⟩
        · exact absurd z1 (hno _)
        · exact absurd z1 (hfar _ _)
      · rcases st_fwd1.mp z1 with ⟨rfl, rfl, rfl⟩ | ⟨rfl, rfl, rfl⟩
        · exact absurd z2 (hno _)
        · exact absurd z2 (hfar _ _)
      · rcases st_fwd1.mp z1 with ⟨rfl, rfl, rfl⟩ | ⟨rfl, rfl, rfl⟩ <;> rcases st_fwd1.mp z2 with ⟨e1, e2, e3⟩ | ⟨e1, e2, e3⟩
        · exact e3.symm
        · exact absurd e2.symm (Lt.inv_ne _)
        · exact absurd e2 (Lt.inv_ne _)
        · exact e3.symm
    · intro w hw
      rcases List.mem_append.mp hw with hw | hw
      · have := h.lt w hw
        show w.1 < g.n + 1 ∧ w.2.2 < g.n + 1
        omega
      · rw [List.mem_singleton.mp hw]
        show (fwd1 (p, x, g.n)).1 < g.n + 1 ∧ (fwd1 (p, x, g.n)).2.2 < g.n + 1
        unfold fwd1
        split <;> exact ⟨by simp only; omega, by simp only; omega⟩
theorem growR_ok : ∀ {r : Row} {g : Gw} {p : Nat}, GwOk g → p < g.n → Grown1 g (growR g p r).1 ∧ (growR g p r).2 < (growR g p r).1.n ∧ Walk (growR g p r).1.W p r (growR g p r).2 ∧ (growR g p r).1.n ≤ g.n + r.length ∧ (growR g p r).1.W.length ≤ g.W.length + r.length
  | [], g, p, h, hp => ⟨.refl h, hp, rfl, Nat.le_refl _, Nat.le_refl _⟩
  | x :: r, g, p, h, hp => by
    obtain ⟨a1, a2, a3, a4, a5⟩ := growS_ok h (x := x) hp
    obtain ⟨b1, b2, b3, b4, b5⟩ := growR_ok (r := r) a1.ok a2
    refine ⟨a1.trans b1, b2, ⟨_, st_sub b1.sub a3, b3⟩, ?_, ?_⟩
    · rw [List.length_cons]
      show (growR (growS g p x).1 (growS g p x).2 r).1.n ≤ _
      omega
    · rw [List.length_cons]
      show (growR (growS g p x).1 (growS g p x).2 r).1.W.length ≤ _
      omega
theorem growR_snoc : ∀ (r : Row) (g : Gw) (p : Nat) (x : Lt), growR g p (r ++ [x]) = growS (growR g p r).1 (growR g p r).2 x
  | [], g, p, x => by
    show growR _ _ [] = _
    rfl
  | y :: r, g, p, x => growR_snoc r (growS g p y).1 (growS g p y).2 x
/-- all rows, one behind the other -/
def growA : Gw → List Row → Gw
  | g, [] => g
  | g, r :: rs => growA (growR g 0 (net r)).1 rs
theorem growA_snoc : ∀ (rs : List Row) (g : Gw) (r : Row), growA g (rs ++ [r]) = (growR (growA g rs) 0 (net r)).1
  | [], _, _ => rfl
  | s :: rs, g, r => growA_snoc rs (growR g 0 (net s)).1 r
theorem growA_ok : ∀ {rs : List Row} {g : Gw} {m : Nat}, GwOk g → 0 < g.n → (∀ r ∈ rs, r.length ≤ m) → Grown1 g (growA g rs) ∧ 0 < (growA g rs).n ∧ (growA g rs).n ≤ g.n + m * rs.length ∧ (growA g rs).W.length ≤ g.W.length + m * rs.length
  | [], g, m, h, h0, _ => ⟨.refl h, h0, Nat.le_add_right _ _, Nat.le_add_right _ _⟩
  | r :: rs, g, m, h, h0, hm => by
    obtain ⟨a1, a2, a3, a4, a5⟩ := growR_ok (r := net r) h h0
    obtain ⟨b1, b2, b3, b4⟩ := growA_ok (rs := rs) (m := m) a1.ok (Nat.lt_of_lt_of_le h0 a1.le) fun s hs => hm s (List.mem_cons_of_mem _ hs)
    have l := net_length_le r
    have l2 := hm r (by simp)
    have e : m * (r :: rs).length = m + m * rs.length := by rw [List.length_cons, Nat.mul_succ]; omega
    refine ⟨a1.trans b1, b2, ?_, ?_⟩
    · rw [e]
      show (growA (growR g 0 (net r)).1 rs).n ≤ _
      omega
    · rw [e]
      show (growA (growR g 0 (net r)).1 rs).W.length ≤ _
      omega
/-- a row is led home in what has grown just if it was at the start -/
theorem grow_home {g g' : Gw} (h : GwOk g) (k : Grown1 g g') (h0 : 0 < g.n) (r : Row) : (growR g' 0 (net r)).2 = 0 ↔ walkD (stepsD g.W) 0 (net r) = some 0 := by
  have h0' : 0 < g'.n := Nat.lt_of_lt_of_le h0 k.le
  obtain ⟨a1, a2, a3, _⟩ := growR_ok (r := net r) k.ok h0'
  rw [walkD_iff (fits_steps h.det)]
  constructor
  · intro e
    rw [e] at a3
    exact k.old _ _ _ (red_net r) h0 h0 (a1.old _ _ _ (red_net r) h0' h0' a3)
  · intro hw
    have h2 : Walk (growR g' 0 (net r)).1.W 0 (net r) 0 := walk_sub (fun p x q s => st_sub a1.sub (st_sub k.sub s)) hw
    exact a1.ok.det.walk a3 h2
end Rb
/-! sorted(t) of a tuple of ints, of any length; list(x) of a text. -/
namespace Rb
set_option linter.all false
set_option maxRecDepth 100000
set_option maxHeartbeats 4000000
open PySem PySem.Spec PyProof.Rows L2
section
variable {P : Program} {w : World} {A : Around} {E : Value → Shared → Prop} {s : Shared}
theorem sorted_ordT {l : Addr} {vs : List Value} {ltv : Value → Value → Bool} {Q : Value → Shared → Prop} (O : SrtO.Swo ltv) (hl : IsTup s.heap l vs.toArray) (hz : vs.length ≤ sizeLine)
    (hS : 2 ≤ vs.length → ∀ (h₁ : Heap) (a : Addr), h₁.get? a = some (seqObj "list" vs.toArray 0) → SrtO.SortableO P w A.in1.in1 { s with heap := h₁ } a vs ltv)
    (h : ∀ (out : List Value) (h2 h' : Heap) (p : Addr) (c : Nat), SrtO.Srtd ltv out → SrtO.Stb ltv out vs → (∀ b o, s.heap.get? b = some o → h2.get? b = some o) → (∀ b o, h2.get? b = some o → h'.get? b = some o) → h2.objs.size ≤ p → h'.get? p = some (seqObj "list" out.toArray c) → Q (.ref p) { s with heap := h' }) :
    wpAny (model P w) A (call (.builtin "sorted") [.ref l]) Q E s := by
  obtain ⟨o, ho, hc, n, hd⟩ := id hl
  refine Calls.call_function_entry kind_sorted plain_sorted entry_sorted (args_sorted1 _) ?_
  unfold Builtin.«sorted»
  refine wpAny_bind (m := checkCount "sorted" 1 1 _) (wpAny_pure ?_)
  refine wpAny_bind (wpAny_collect_seq l (.inr rfl) ho hc hd (fun h2 hk => ?_) (by rw [List.size_toArray]; exact hz))
  have e0 : vs.toArray.toList = vs := by simp
  rw [e0]
  refine wpAny_bind (wpAny_newList ?_ hz)
  have hoL : (h2.push (seqObj "list" vs.toArray 0)).get? h2.objs.size = some (seqObj "list" vs.toArray 0) := Heap.get?_push_size _ rfl
  show wpAny _ _ _ _ _ { s with heap := h2.push (seqObj "list" vs.toArray 0) }
  refine wpAny_bind (wpAny_holding (wpAny_call_entry slot_list_sort ⟨_, hoL, rfl⟩ entry_list_sort (SrtO.list_sort_ord O hoL hz (fun h2' => hS h2' _ _ hoL) fun out hs hb => ⟨_, rfl, ?_⟩) (args_list_sort _)))
  obtain ⟨c, hc2⟩ := sortedHeap_at (vs := vs) (out := out.toArray) hoL
  refine wpAny_pure ⟨_, rfl, h out h2 _ h2.objs.size c hs hb hk (fun b u q => ?_) (Nat.le_refl _) hc2⟩
  have hlt := Heap.lt_size q
  rw [sortedHeap_old (Nat.ne_of_lt hlt) (by rw [size_push']; exact Nat.lt_succ_of_lt hlt)]
  exact Heap.get?_push_of_some _ q
end
/-- sorted(t), ints in a tuple -/
def rSortedIT (K : PySem.W.Frag) : List V → Hp → VK → Prop := fun vs H Q => ∃ (a : Addr) (ns : List Int), vs = [V.ref a] ∧ SqT K H a (ns.map V.int) ∧
  ∀ (ns' : List Int) (p : Addr), ns'.Perm ns → ns'.Pairwise (· ≤ ·) → H p = none → Q (.ref p) (upd H p (.lst (ns'.map V.int)))
section
variable {X : Cx}
theorem cr_sortedIT : CallR X (.builtin "sorted") (rSortedIT X.K) := by
  intro pins s σ H vs us Q I r h
  obtain ⟨a, ns, rfl, hs, q⟩ := h
  obtain ⟨its, rv, hl, hz⟩ := I.tuple hs
  rw [Vals.ref1 r]
  have hi := rv.ints
  refine sorted_ordT SrtO.swo_int hl (by rw [← rv.length]; exact hz) (fun h2 h₁ a' _ => SrtO.ints_sortable hi h2) fun out hp2 h' p c h1 h2 hk0 hk hp hg => ?_
  obtain ⟨k1, k2, k3⟩ := SrtO.ints_out hi h1 h2
  have I2 : Inv X pins σ H { s with heap := hp2, toks := s.toks } := I.kept hk0
  have hlen : ((out.map SrtO.iv).map V.int).length ≤ sizeLine := by
    rw [List.length_map, k2.length_eq]
    rw [List.length_map] at hz
    exact hz
  exact ⟨.ref p, upd H p (.lst ((out.map SrtO.iv).map V.int)), I2.laid (t' := s.toks) hk hp ⟨hlen, out, c, vals_of_ints k1, hg⟩, rfl, q _ _ k2 k3 (I2.hok.fresh hp)⟩
theorem signs_vals (x : Str) : ∀ {acc : List Value} {cs : List Nat}, acc.length = cs.length → (∀ (j : Nat) (v : Value), acc[j]? = some v → ∃ c t, cs[j]? = some c ∧ v = .str ⟨#[c]⟩ t) → Vals (cs.map fun c => V.str ⟨#[c]⟩) acc
  | [], [], _, _ => .nil
  | v :: vs, c :: cs, hl, h => by
    obtain ⟨c', t, e1, e2⟩ := h 0 v rfl
    cases (Option.some.inj e1 : c = c')
    subst e2
    exact .cons ⟨t, rfl⟩ (signs_vals x (by simpa using hl) fun j v e => h (j + 1) v (by simpa using e))
  | [], _ :: _, hl, _ => by simp at hl
  | _ :: _, [], hl, _ => by simp at hl
/-- list(x), x a text -/
theorem call_listS (hcalm : X.calm = true) : CallR X (.type "list") (fun xs H Q => ∃ (x : Str), xs = [.str x] ∧ x.cps.size ≤ sizeLine ∧ ∀ p, H p = none → Q (.ref p) (upd H p (.lst (x.cps.toList.map fun c => V.str ⟨#[c]⟩)))) := by
  intro pins s σ H xs us Q I r q
  obtain ⟨x, rfl, hz, q⟩ := q
  obtain ⟨u, rfl, rx⟩ := vals1 r
  obtain ⟨t, rfl⟩ := (show ∃ t, u = Value.str x t from rx)
  refine call_list_str (hn := hz) (I.ok.hd hcalm) x t fun h' tk acc c' hk hD hacc => ?_
  have hv : Vals (x.cps.toList.map fun c => V.str ⟨#[c]⟩) acc.toList := by
    refine signs_vals x (by rw [Array.length_toList, hacc.1, Array.length_toList]) fun j v e => ?_
    have h2 := hacc.2 j v (by rw [← Array.getElem?_toList]; exact e)
    obtain ⟨c, t, e1, e2⟩ := h2
    exact ⟨c, t, by rw [Array.getElem?_toList]; exact e1, e2⟩
  exact ⟨.ref s.heap.objs.size, upd H s.heap.objs.size (.lst (x.cps.toList.map fun c => V.str ⟨#[c]⟩)), I.laid (t' := tk) hk (Nat.le_refl _)
    (show ObjOk X.prog X.w _ _ _ (.lst (x.cps.toList.map fun c => V.str ⟨#[c]⟩)) from ⟨by rw [List.length_map, Array.length_toList]; exact hz, acc.toList, c', hv, by rw [Array.toArray_toList]; exact hD⟩), rfl, q _ (I.hok.fresh (Nat.le_refl _))⟩
end
end Rb
/-! Rows as Python's texts. -/
namespace Rb
set_option linter.all false
set_option maxRecDepth 100000
set_option maxHeartbeats 4000000
open PySem PySem.Spec PyProof.Rows L2
/-- a letter's code -/
def Lt.c (x : Lt) : Nat := (if x.u = true then 65 else 97) + x.d.val
/-- a row as a text -/
def rS (r : Row) : Str := ⟨(r.map Lt.c).toArray⟩
def lS (x : Lt) : Str := ⟨#[x.c]⟩
theorem Lt.c_inj {x y : Lt} (h : x.c = y.c) : x = y := by
  obtain ⟨d, u⟩ := x
  obtain ⟨e, v⟩ := y
  have h1 := d.isLt
  have h2 := e.isLt
  cases u <;> cases v <;> simp only [Lt.c, Bool.false_eq_true, if_false, if_true] at h
  · have : d = e := Fin.ext (by omega)
    rw [this]
  · omega
  · omega
  · have : d = e := Fin.ext (by omega)
    rw [this]
theorem map_c_inj : ∀ {a b : Row}, a.map Lt.c = b.map Lt.c → a = b
  | [], [], _ => rfl
  | [], _ :: _, h => by simp at h
  | _ :: _, [], h => by simp at h
  | x :: a, y :: b, h => by
    simp only [List.map_cons, List.cons.injEq] at h
    rw [Lt.c_inj h.1, map_c_inj h.2]
theorem rS_inj {a b : Row} (h : rS a = rS b) : a = b := by
  unfold rS at h
  have h2 := congrArg (fun s : Str => s.cps.toList) h
  simp only at h2
  exact map_c_inj h2
theorem lS_inj {x y : Lt} (h : lS x = lS y) : x = y := by
  have : rS [x] = rS [y] := h
  exact (List.cons.inj (rS_inj this)).1
theorem rS_one (x : Lt) : rS [x] = lS x := rfl
theorem rS_nil : rS [] = Str.empty := rfl
theorem rS_len (r : Row) : (rS r).length = r.length := by
  show ((r.map Lt.c).toArray).size = _
  simp
theorem rS_list (r : Row) : (rS r).cps.toList = r.map Lt.c := rfl
theorem str_ext {a b : Str} (h : a.cps.toList = b.cps.toList) : a = b := by
  cases a; cases b
  simp only [Str.mk.injEq]
  exact Array.toList_inj.mp h
theorem rS_append (a b : Row) : rS a ++ rS b = rS (a ++ b) := by
  refine str_ext ?_
  show ((rS a).cps ++ (rS b).cps).toList = _
  rw [Array.toList_append, rS_list, rS_list, rS_list, List.map_append]
theorem rS_get (r : Row) (i : Nat) : (rS r).cps[i]? = r[i]?.map Lt.c := by
  show (r.map Lt.c).toArray[i]? = _
  simp
theorem all52 {p : Lt → Prop} (h : ∀ d : Fin 26, p ⟨d, false⟩ ∧ p ⟨d, true⟩) (x : Lt) : p x := by
  obtain ⟨d, u⟩ := x
  cases u
  · exact (h d).1
  · exact (h d).2
def lowLt (x : Lt) : Lt := ⟨x.d, false⟩
def upLt (x : Lt) : Lt := ⟨x.d, true⟩
theorem code_facts : ∀ x : Lt, Unicode.upperOf x.c = [(upLt x).c] ∧ Unicode.lowerOf x.c = [(lowLt x).c] ∧ Unicode.isUpper x.c = x.u ∧ Unicode.isLower x.c = (!x.u) ∧ (x.c == 0x3A3) = false := by
  apply all52
  decide +kernel
theorem lowerAt_lt {r : Row} {i : Nat} {x : Lt} (h : r[i]? = some x) : Unicode.lowerAt (rS r).cps i = [(lowLt x).c] := by
  unfold Unicode.lowerAt
  rw [rS_get, h]
  simp only [Option.map_some, (code_facts x).2.2.2.2, (code_facts x).2.1, Bool.false_and, Bool.false_eq_true, if_false]
theorem flatten_single {f : Lt → Lt} : ∀ (r : Row), (r.map (fun x => #[(f x).c])).toArray.flatten = (r.map (fun x => (f x).c)).toArray := by
  intro r
  apply Array.toList_inj.mp
  simp [Array.toList_flatten]
  induction r with
  | nil => rfl
  | cons x r ih => simp [ih]
theorem placed_row {f : Lt → Lt} {g : Nat → Nat → List Nat} (r : Row) (h : ∀ (i : Nat) (x : Lt), r[i]? = some x → g i x.c = [(f x).c]) : placed (rS r) g = (rS (r.map f)).cps := by
  unfold placed
  have e : (rS r).cps.mapIdx (fun i c => (g i c).toArray) = (r.map (fun x => #[(f x).c])).toArray := by
    apply Array.ext_getElem?
    intro i
    rw [Array.getElem?_mapIdx, rS_get]
    simp only [List.getElem?_toArray, List.getElem?_map]
    cases e : r[i]? with
    | none => rfl
    | some x =>
      simp only [Option.map_some]
      rw [h i x e]
  rw [e, flatten_single]
  show (r.map (fun x => (f x).c)).toArray = ((r.map f).map Lt.c).toArray
  rw [List.map_map]
  rfl
theorem upper_row (r : Row) : Txt.upper (rS r) = rS (r.map upLt) := by
  unfold Txt.upper
  rw [placed_row (f := upLt) r fun i x h => (code_facts x).1]
theorem lower_row (r : Row) : Txt.lower (rS r) = rS (r.map lowLt) := by
  unfold Txt.lower
  rw [placed_row (f := lowLt) (g := fun i _ => Unicode.lowerAt (rS r).cps i) r fun i x h => lowerAt_lt h]
theorem swap_row (r : Row) : Txt.swapcase (rS r) = rS (r.map Lt.inv) := by
  unfold Txt.swapcase
  rw [placed_row (f := Lt.inv) r fun i x h => ?_]
  obtain ⟨h1, h2, h3, h4, _⟩ := code_facts x
  rw [h3, h4, h1, lowerAt_lt h]
  obtain ⟨d, u⟩ := x
  cases u <;> rfl
theorem upper_lt (x : Lt) : Txt.upper (lS x) = lS (upLt x) := upper_row [x]
theorem lower_lt (x : Lt) : Txt.lower (lS x) = lS (lowLt x) := lower_row [x]
theorem swap_lt (x : Lt) : Txt.swapcase (lS x) = lS x.inv := swap_row [x]
theorem mem_rS {r : Row} {x : Lt} : x.c ∈ (rS r).cps.toList ↔ x ∈ r := by
  rw [rS_list, List.mem_map]
  exact ⟨fun ⟨y, h, e⟩ => Lt.c_inj e ▸ h, fun h => ⟨x, h, rfl⟩⟩
/-- the letters over deeds -/
def lets (ds : List (Fin 26)) : List Lt := ds.flatMap fun d => [⟨d, false⟩, ⟨d, true⟩]
theorem mem_lets {ds : List (Fin 26)} {x : Lt} : x ∈ lets ds ↔ x.d ∈ ds := by
  unfold lets
  simp only [List.mem_flatMap, List.mem_cons, List.not_mem_nil, or_false]
  constructor
  · rintro ⟨d, h, e | e⟩ <;> (subst e; exact h)
  · intro h
    refine ⟨x.d, h, ?_⟩
    obtain ⟨d, u⟩ := x
    cases u <;> simp
theorem lets_inv {ds : List (Fin 26)} {x : Lt} (h : x ∈ lets ds) : x.inv ∈ lets ds := mem_lets.mpr (show x.d ∈ ds from mem_lets.mp h)
/-- deeds as a text -/
def dS (ds : List (Fin 26)) : Str := rS (ds.map fun d => ⟨d, false⟩)
section
variable {X : Cx} {o : Expr} {to : TE}
theorem mt_swapcase : MtR X "str.swapcase" (fun x xs H Q => ∃ a, x = .str a ∧ xs = [] ∧ a.length ≤ 5000000 ∧ Q (.str (Txt.swapcase a)) H) :=
  mt0 (C := fun a => a.length ≤ 5000000) (g := fun a => .str (Txt.swapcase a)) fun a _ s _ hc h =>
    SC.swapcase (short24 (by have h1 : a.length ≤ 5000000 := hc; have h2 := len_swapcase a; omega)) (h _ (s.toks + 1) ⟨_, rfl⟩)
theorem pe_swap {apos pos : Pos} (ho : PE X o to) (hbase : attributeBase o "swapcase" X.env (eval o X.env) = eval o X.env := by rfl) (hline : (apos.endLine == pos.line) = true := by rfl) :
    PE X (.Call (.Attribute o "swapcase" apos) [] [] pos) (tM0 (fun x xs H Q => ∃ a, x = .str a ∧ xs = [] ∧ a.length ≤ 5000000 ∧ Q (.str (Txt.swapcase a)) H) to) :=
  pe_m0 F.slot_str_swapcase F.type_str_swapcase mt_swapcase ho hbase hline
/-- a power of a great number -/
theorem op_powB : OpR X (binaryOp .Pow) (rI (fun i j => 0 ≤ j ∧ (Builtin.Int.intBits i : Int) * j ≤ 2 ^ 27) fun i j => .int (i ^ j.toNat)) :=
  opI fun _ _ _ _ _ _ _ hc q => pow_int hc.1 hc.2 q
end
end Rb
/-! Further rules over the hand layer: texts turned about and repeated, setdefault, sorted and repr of data. -/
namespace Rb
set_option linter.all false
set_option maxRecDepth 100000
set_option maxHeartbeats 4000000
open PySem PySem.Spec PyProof.Rows L2
/-! ### s[::-1] -/
def revS (z : Str) : Str := ⟨z.cps.reverse⟩
theorem rev_row (r : Row) : revS (rS r) = rS r.reverse := by
  refine str_ext ?_
  show (rS r).cps.reverse.toList = _
  rw [Array.toList_reverse, rS_list, rS_list, List.map_reverse]
theorem rev_picked (z : Str) : (Builtin.Str.strSliceIndices none none (-1) z.length).filterMap (z.cps[·]?) = z.cps.toList.reverse := by
  have e1 : Builtin.Str.strSliceIndices none none (-1) z.length = (List.range z.length).reverse := by
    rw [← PySem.W.krv_range, ← PySem.W.krv_sliceRange]
    rfl
  rw [e1, List.filterMap_reverse]
  exact congrArg List.reverse (PySem.W.krv_all z.cps)
def tRevS (te : TE) : TE := fun σ H Q => te σ H fun x H1 => ∃ z, x = .str z ∧ z.length ≤ sizeLine ∧ Q (.str (revS z)) H1
section
variable {X : Cx}
theorem pe_revS {e : Expr} {te : TE} {k : Nat} {p1 p2 p3 pos : Pos} (he : PE X e te) : PE X (.Subscript e (.Slice none none (some (.UnaryOp .USub (.Constant (.int 1) k p1) p2)) p3) pos) (tRevS te) := by
  refine ⟨fun pins s σ H Q I h => ?_⟩
  refine Subscript_ (thn (he.run pins s σ H _ I h) fun v s1 ⟨x, H1, I1, r1, q1⟩ => ?_)
  obtain ⟨z, ex, hz, q⟩ := q1
  subst ex
  obtain ⟨t, rfl⟩ := r1
  have hst : PO X (some (.UnaryOp .USub (.Constant (.int 1) k p1) p2)) (tPart (tUn (rU fun i => .int (-i)) (tC (.int 1)))) := po_some (pe_un un_neg pe_int)
  refine wpAny_Slice (thn (po_none.run pins s1 σ H1 (fun o H2 => o = none ∧ H2 = H1) I1 ⟨rfl, rfl⟩) fun vl s2 ⟨l, H2, I2, pl, el, e2⟩ => ?_)
  subst el e2
  refine thn (po_none.run pins s2 σ H2 (fun o H3 => o = none ∧ H3 = H2) I2 ⟨rfl, rfl⟩) fun vu s3 ⟨u, H3, I3, pu, eu, e3⟩ => ?_
  subst eu e3
  refine thn (hst.run pins s3 σ H3 (fun o H4 => o = some (-1) ∧ H4 = H3) I3 ⟨1, rfl, -1, rfl, rfl, rfl⟩) fun vs s4 ⟨o, H4, I4, ps, eo, e4⟩ => ?_
  subst eo e4
  have I5 : Inv X pins σ H4 { s4 with heap := s4.heap.push { cls := .type "slice", data := .fields #[vl, vu, vs] } } := I4.kept (t' := s4.toks) fun b ob q => Heap.get?_push_of_some _ q
  obtain ⟨l, rfl, el⟩ := IsPart.raw pl
  obtain ⟨u, rfl, eu⟩ := IsPart.raw pu
  obtain ⟨st, rfl, es⟩ := IsPart.raw ps
  obtain ⟨os, hos, hcs, hds⟩ := Heap.IsSliceOf.new s4.heap (partValue l) (partValue u) (partValue st)
  refine tail_any (ops := [.ref s4.heap.objs.size, .str z t]) (typeIs_str _ _ _) F.slot_str_getitem.lookup ?_ (by with_unfolding_all rfl)
  refine wpAny_getItem_str_slice (l := l) (u := u) (st := st) ⟨os, hos, hcs, hds⟩ (by rw [es]; decide) ?_
  unfold sliceMade slicePicked
  rw [el, eu, es]
  rw [if_neg (fun h => absurd (Bool.and_eq_true_iff.mp h).1 (by decide))]
  have e : ((Builtin.Str.strSliceIndices none none ((some (-1 : Int)).getD 1) z.length).filterMap (z.cps[·]?)).toArray = z.cps.reverse := by
    show ((Builtin.Str.strSliceIndices none none (-1) z.length).filterMap (z.cps[·]?)).toArray = _
    rw [rev_picked]
    apply Array.toList_inj.mp
    simp
  rw [e]
  have hl : (revS z).length ≤ sizeLine := by
    show z.cps.reverse.size ≤ _
    rw [Array.size_reverse]
    exact hz
  exact ⟨hl, .str (revS z), H4, I5.tok _, ⟨_, rfl⟩, q⟩
/-! ### s * n -/
def rRepS : R2 := fun x y H Q => ∃ (r : Row) (n : Nat), x = .str (rS r) ∧ y = .int (n : Int) ∧ n ≤ 1000 ∧ r.length ≤ 1000 ∧ Q (.str (rS (List.replicate n r).flatten)) H
theorem rep_fold (r : Row) : ∀ (n : Nat) (acc : Row), (List.replicate n (rS r).cps).foldl (· ++ ·) (rS acc).cps = (rS (acc ++ (List.replicate n r).flatten)).cps
  | 0, acc => by simp
  | n + 1, acc => by
    rw [List.replicate_succ, List.foldl_cons]
    have e : (rS acc).cps ++ (rS r).cps = (rS (acc ++ r)).cps := congrArg Str.cps (rS_append acc r)
    rw [e, rep_fold r n (acc ++ r), List.replicate_succ, List.flatten_cons, List.append_assoc]
theorem rep_len (r : Row) : ∀ n : Nat, (List.replicate n r).flatten.length = n * r.length
  | 0 => by simp
  | n + 1 => by
    rw [List.replicate_succ, List.flatten_cons, List.length_append, rep_len r n, Nat.add_mul, Nat.one_mul, Nat.add_comm]
theorem op_repS : OpR X (binaryOp .Mult) rRepS := by
  intro pins s σ H x y v u Q I rx ry h
  obtain ⟨r, n, rfl, rfl, hn, hr, q⟩ := h
  obtain ⟨t, rfl⟩ := rx
  obtain ⟨t', rfl⟩ := ry
  have hl : (rS r).length * n ≤ 1000000 := by rw [rS_len]; exact Nat.mul_le_mul hr hn
  have hsz : 1000000 ≤ sizeLine := by decide
  refine PySem.P.mul_str ?_ (fun h1 h2 => ?_) (fun h1 h2 => ?_) ?_
  · have h1 : ¬ ((n : Int) < -(2 ^ 63 : Int)) := by omega
    have h2 : ¬ ((n : Int) ≥ 2 ^ 63) := by omega
    rw [decide_eq_false h1, decide_eq_false h2]
    rfl
  · intro hgt
    have h3 : (0 : Int) < n := by omega
    rw [rS_len] at hgt
    have h4 : (2 ^ 63 - 1 : Int) / n < 1000 := by omega
    have h5 := (Int.ediv_lt_iff_lt_mul h3).mp h4
    omega
  · unfold Builtin.Str.tooLong
    refine decide_eq_false ?_
    have e : ((n : Int)).toNat = n := rfl
    rw [e]
    omega
  · by_cases h1 : (n : Int) < 1
    · rw [if_pos h1]
      have e : n = 0 := by omega
      subst e
      exact ⟨by decide, .str Str.empty, H, I.tok _, ⟨_, rfl⟩, q⟩
    · rw [if_neg h1]
      by_cases h2 : ((n : Int) == 1 || (rS r).length == 0) = true
      · rw [if_pos h2]
        refine ⟨.str (rS r), H, I, ⟨t, rfl⟩, ?_⟩
        have e : (List.replicate n r).flatten = r := by
          rw [Bool.or_eq_true] at h2
          rcases h2 with h2 | h2
          · have : n = 1 := by have := eq_of_beq h2; omega
            subst this
            simp
          · have : r.length = 0 := by rw [← rS_len]; exact eq_of_beq h2
            have e : r = [] := List.eq_nil_of_length_eq_zero this
            subst e
            simp
        rw [e] at q
        exact q
      · rw [if_neg h2]
        have e : (List.replicate ((n : Int)).toNat (rS r).cps).foldl (· ++ ·) #[] = (rS (List.replicate n r).flatten).cps := by
          have h5 := rep_fold r n []
          have e0 : (rS []).cps = #[] := rfl
          rw [e0, List.nil_append] at h5
          exact h5
        rw [e]
        refine ⟨?_, .str (rS (List.replicate n r).flatten), H, I.tok _, ⟨_, rfl⟩, q⟩
        have e2 := rS_len (List.replicate n r).flatten
        rw [rep_len] at e2
        have e3 : (⟨(rS (List.replicate n r).flatten).cps⟩ : Str).length = n * r.length := e2
        rw [e3]
        rw [rS_len] at hl
        have := Nat.mul_comm n r.length
        omega
end
/-! ### d.setdefault((x, y), v) -/
section
variable {X : Cx} {o e f : Expr} {td ty tx : TE} {apos cpos : Pos}
def tDSetdT (td ty tx : TE) : TE := fun σ H Q => td σ H fun x H1 => ∃ a, x = .ref a ∧ IsD H1 a ∧ ty σ H1 fun y H2 => tx σ H2 fun z H3 => ∃ (kvs : List (List L2.Key × V)) (k : List L2.Key) (b : Addr),
  H3 a = some (.dT kvs) ∧ y = .ref b ∧ H3 b = some (.tup (k.map kV)) ∧ kvs.length < sizeLine ∧ (∀ v, valV kvs k = some v → Q v H3) ∧ (valV kvs k = none → Q z (upd H3 a (.dT (putK kvs k z))))
theorem pe_dsetdT (hu : X.A.units + 1 < cLine) (ho : PE X o td) (he : PE X e ty) (hf : PE X f tx) (m : M2 X o "setdefault" apos e f cpos) : PE X (.Call (.Attribute o "setdefault" apos) [e, f] [] cpos) (tDSetdT td ty tx) := by
  refine ⟨fun pins s σ H Q I h => ?_⟩
  refine wpAny_Call_method m.base m.few m.line F.plainAttrs_dict F.slot_dict_setdefault F.type_dict_setdefault (thn (ho.run pins s σ H _ I h) fun u s1 ⟨x, H1, I1, rx, a, ex, d, q1⟩ => ?_)
  subst ex
  obtain rfl : u = Value.ref a := rx
  obtain ⟨t1, t2, _⟩ := isD_at I1 d
  refine ⟨t1, t2, ?_⟩
  rw [m.trees]
  refine Calls.callWith_builtin rfl (Calls.evalArgs_plain (Calls.spliced_cons (thn (he.run pins s1 σ H1 _ I1 q1) fun iv s2 ⟨y, H2, I2, ry, q2⟩ =>
    Calls.spliced_cons (thn (hf.run pins s2 σ H2 _ I2 q2) fun fv s3 ⟨z, H3, I3, rz, kvs, k, b, ea, ey, eb, hl, q3, q4⟩ => Calls.spliced_nil ?_))))
  subst ey
  obtain rfl : iv = Value.ref b := ry
  obtain ⟨hz, hd, xs, rel, dd⟩ := dt_of I3.hok ea
  have hlen := Paired.length rel
  refine call_setdefault_heap (hsz := by rw [← hlen]; exact hz) (tupleKind_room_in1 hu) (key_of I3.hok eb) hd dd (fun p hp => ?_) fun hn h' dd' hs => ?_
  · obtain ⟨v, hv, rv⟩ : ∃ v, valV kvs k = some v ∧ RelV v p.2 := by
      have hr := rel.val k
      rw [hp] at hr
      cases e : valV kvs k with
      | none => rw [e] at hr; exact hr.elim
      | some v => rw [e] at hr; exact ⟨v, rfl, hr⟩
    exact ⟨v, H3, I3.tok _, rv, q3 v hv⟩
  · have hv : valV kvs k = none := by
      have hr := rel.val k
      rw [hn] at hr
      cases e : valV kvs k with
      | none => rfl
      | some v => rw [e] at hr; exact hr.elim
    obtain ⟨q, es, ep, hq, h2, h3, h4, _, h5⟩ := dd'
    have hl2 : (putK kvs k z).length ≤ sizeLine := by have := length_putK kvs k z; omega
    refine ⟨z, _, d_write (ob := .dT (putK kvs k z)) I3 (by rw [ea]; exact True.intro) hs ⟨q, hq⟩ ⟨hl2, hd, _, (rel.put k eb rz).keeps fun c ys ec => ?_, q, es, ep, hq, h2, h3, h4, h5⟩, rz, q4 hv⟩
    rw [upd_ne (ne_of ec ea (fun z => nomatch z))]
    exact ec
end
end Rb
/-! Data in the heap: ways as tuples; sorted and repr of them; enumerate of a text. -/
namespace Rb
set_option linter.all false
set_option maxRecDepth 100000
set_option maxHeartbeats 4000000
open PySem PySem.Spec PyProof.Rows L2
/-! ### data stay -/
/-- tuples, and what is locked, stay -/
def KeepT (H H' : Hp) : Prop := (∀ a xs, H a = some (.tup xs) → H' a = some (.tup xs)) ∧ (∀ a o u, H a = some (.frz o u) → H' a = some (.frz o u))
theorem KeepT.refl (H : Hp) : KeepT H H := ⟨fun _ _ h => h, fun _ _ _ h => h⟩
theorem KeepT.trans {H H1 H2 : Hp} (a : KeepT H H1) (b : KeepT H1 H2) : KeepT H H2 := ⟨fun c x h => b.1 c x (a.1 c x h), fun c o u h => b.2 c o u (a.2 c o u h)⟩
theorem KeepT.of {H H' : Hp} (e : Same H H') : KeepT H H' := ⟨fun a xs h => e a _ h, fun a o u h => e a _ h⟩
theorem KeepT.put {H : Hp} {p : Addr} {o : HO} (h : H p = none ∨ Mut (H p)) : KeepT H (upd H p o) := by
  constructor
  · intro a xs e
    have hne : a ≠ p := by
      intro z
      subst z
      rcases h with h | h
      · rw [h] at e; cases e
      · rw [e] at h; exact h
    rw [upd_ne hne]; exact e
  · intro a o' u e
    have hne : a ≠ p := by
      intro z
      subst z
      rcases h with h | h
      · rw [h] at e; cases e
      · rw [e] at h; exact h
    rw [upd_ne hne]; exact e
theorem KeepT.sqT {K : PySem.W.Frag} {H H' : Hp} {a : Addr} {xs : List V} (k : KeepT H H') (h : SqT K H a xs) : SqT K H' a xs := by
  rcases h with (h | ⟨o, h⟩) | h
  · exact .inl (.inl (k.1 _ _ h))
  · exact .inl (.inr ⟨o, k.2 _ _ _ h⟩)
  · exact .inr h
/-- no list within -/
def flatD : PyData → Bool
  | .none => true
  | .bool _ => true
  | .int _ => true
  | .str _ => true
  | .list _ => false
  | .tuple xs => flatDs xs
  | .dict _ => false
where flatDs : List PyData → Bool
  | [] => true
  | x :: xs => flatD x && flatDs xs
mutual
theorem dp_keep {K : PySem.W.Frag} {H H' : Hp} (k : KeepT H H') : ∀ {v : V} {d : PyData}, Dp K H v d → flatD d = true → Dp K H' v d
  | _, _, .non, _ => .non
  | _, _, .bl b, _ => .bl b
  | _, _, .int i, _ => .int i
  | _, _, .str x, _ => .str x
  | _, _, .lst _ _, h => by simp [flatD] at h
  | _, _, .tup hs ha, h => .tup (k.sqT hs) (dpAll_keep k ha (by simpa [flatD] using h))
theorem dpAll_keep {K : PySem.W.Frag} {H H' : Hp} (k : KeepT H H') : ∀ {vs : List V} {ds : List PyData}, DpAll K H vs ds → flatD.flatDs ds = true → DpAll K H' vs ds
  | _, _, .nil, _ => .nil
  | _, _, .cons h t, e => by
    simp only [flatD.flatDs, Bool.and_eq_true] at e
    exact .cons (dp_keep k h e.1) (dpAll_keep k t e.2)
end
mutual
theorem dp_same {K : PySem.W.Frag} {H H' : Hp} (k : Same H H') : ∀ {v : V} {d : PyData}, Dp K H v d → Dp K H' v d
  | _, _, .non => .non
  | _, _, .bl b => .bl b
  | _, _, .int i => .int i
  | _, _, .str x => .str x
  | _, _, .lst hs ha => .lst (k.seq hs) (dpAll_same k ha)
  | _, _, .tup hs ha => .tup ((KeepT.of k).sqT hs) (dpAll_same k ha)
theorem dpAll_same {K : PySem.W.Frag} {H H' : Hp} (k : Same H H') : ∀ {vs : List V} {ds : List PyData}, DpAll K H vs ds → DpAll K H' vs ds
  | _, _, .nil => .nil
  | _, _, .cons h t => .cons (dp_same k h) (dpAll_same k t)
end
theorem dp_len {K : PySem.W.Frag} {H : Hp} : ∀ {vs : List V} {ds : List PyData}, DpAll K H vs ds → vs.length = ds.length
  | _, _, .nil => rfl
  | _, _, .cons _ t => by simp [dp_len t]
theorem dp_get {K : PySem.W.Frag} {H : Hp} : ∀ {vs : List V} {ds : List PyData} {i : Nat} {v : V}, DpAll K H vs ds → vs[i]? = some v → ∃ d, ds[i]? = some d ∧ Dp K H v d
  | _, _, i, v, .nil, h => by simp at h
  | _, _, 0, v, .cons k t, h => by
    simp at h
    subst h
    exact ⟨_, rfl, k⟩
  | _, _, i + 1, v, .cons k t, h => by
    obtain ⟨d, h1, h2⟩ := dp_get (i := i) t (by simpa using h)
    exact ⟨d, by simpa using h1, h2⟩
theorem dp_snoc {K : PySem.W.Frag} {H : Hp} {v : V} {d : PyData} (h : Dp K H v d) : ∀ {vs : List V} {ds : List PyData}, DpAll K H vs ds → DpAll K H (vs ++ [v]) (ds ++ [d])
  | _, _, .nil => .cons h .nil
  | _, _, .cons k t => .cons k (dp_snoc h t)
theorem dp_app {K : PySem.W.Frag} {H : Hp} : ∀ {vs ws : List V} {ds es : List PyData}, DpAll K H vs ds → DpAll K H ws es → DpAll K H (vs ++ ws) (ds ++ es)
  | _, _, _, _, .nil, h => h
  | _, _, _, _, .cons k t, h => .cons k (dp_app t h)
/-! ### ways -/
def encW (w : Way) : PyData := .tuple [.int w.1, .str (lS ⟨w.2.1, false⟩), .int w.2.2]
def encA (a : Arr) : PyData := .tuple [.int a.1, .str (lS a.2.1), .int a.2.2]
theorem flat_ways : ∀ ws : List Way, flatD.flatDs (ws.map encW) = true
  | [] => rfl
  | w :: ws => by
    rw [List.map_cons, flatD.flatDs, flat_ways ws]
    rfl
theorem flat_arrs : ∀ ws : List Arr, flatD.flatDs (ws.map encA) = true
  | [] => rfl
  | w :: ws => by
    rw [List.map_cons, flatD.flatDs, flat_arrs ws]
    rfl
theorem dp_int {K : PySem.W.Frag} {H : Hp} {v : V} {i : Int} (h : Dp K H v (.int i)) : v = .int i := by cases h; rfl
theorem dp_str {K : PySem.W.Frag} {H : Hp} {v : V} {x : Str} (h : Dp K H v (.str x)) : v = .str x := by cases h; rfl
theorem dp_tup3 {K : PySem.W.Frag} {H : Hp} {v : V} {i j : Int} {x : Str} (h : Dp K H v (.tuple [.int i, .str x, .int j])) : ∃ t, v = .ref t ∧ SqT K H t [.int i, .str x, .int j] := by
  cases h with
  | @tup a xs _ hs ha =>
    cases ha with
    | cons h1 ha =>
      cases ha with
      | cons h2 ha =>
        cases ha with
        | cons h3 ha =>
          cases ha
          cases h1; cases h2; cases h3
          exact ⟨a, rfl, hs⟩
theorem dp_of3 {K : PySem.W.Frag} {H : Hp} {t : Addr} {i j : Int} {x : Str} (h : SqT K H t [.int i, .str x, .int j]) : Dp K H (.ref t) (.tuple [.int i, .str x, .int j]) :=
  .tup h (.cons (.int i) (.cons (.str x) (.cons (.int j) .nil)))
/-! ### sorted(ways) -/
theorem strlt (d e : Fin 26) : strKind.blt [97 + d.val] [97 + e.val] = decide (d < e) := by
  revert d e
  decide +kernel
theorem lS_low (d : Fin 26) : (lS ⟨d, false⟩).cps.toList = [97 + d.val] := rfl
theorem wle_data (a b : Way) : PySem.W.dataLe false encW a b = wle a b := by
  obtain ⟨p, d, q⟩ := a
  obtain ⟨p', d', q'⟩ := b
  unfold PySem.W.dataLe PySem.W.sortLe
  show (!lexLt itemOrd (PySem.W.keyToks (encW (p', d', q'))) (PySem.W.keyToks (encW (p, d, q)))) = _
  have e : ∀ (p : Nat) (d : Fin 26) (q : Nat), PySem.W.keyToks (encW (p, d, q)) = [.inl 1, .inl (p : Int), .inl 1, .inr [97 + d.val], .inl 1, .inl (q : Int), .inl 0] := by
    intro p d q
    simp only [encW, PySem.W.keyToks, PySem.W.keyToksAll, List.cons_append, List.nil_append, lS_low]
  rw [e, e]
  have b1 : ∀ i j : Int, itemLt (.inl i) (.inl j) = decide (i < j) := fun _ _ => rfl
  have b2 : ∀ d e : Fin 26, itemLt (.inr [97 + d.val]) (.inr [97 + e.val]) = decide (d < e) := strlt
  rw [lex_cons, lex_cons, lex_cons, lex_cons, lex_cons, lex_cons, lex_cons]
  simp only [b1, b2]
  have z : lexLt itemOrd [] [] = false := rfl
  rw [z]
  unfold wle
  simp only [Int.lt_irrefl, decide_false, Bool.false_or, Bool.not_false, Bool.true_and, Bool.and_false, Bool.or_false]
  by_cases h1 : p < p'
  · have : ¬ ((p' : Int) < p) := by omega
    have h2 : ((p : Int) < p') := by omega
    simp [this, h1, h2]
  · by_cases h2 : p' < p
    · have h3 : ((p' : Int) < p) := by omega
      have h4 : ¬ p = p' := by omega
      simp [h1, h3, h4]
    · have h3 : p = p' := by omega
      subst h3
      by_cases h4 : d < d'
      · have h5 : ¬ d' < d := by omega
        simp [h4, h5]
      · by_cases h5 : d' < d
        · have h6 : ¬ d = d' := by omega
          simp [h4, h5, h6]
        · have h6 : d = d' := by omega
          subst h6
          by_cases h7 : q ≤ q'
          · have h8 : ¬ q' < q := by omega
            simp [h7, h8]
          · have h8 : q' < q := by omega
            simp [h7, h8]
def rSortW (K : PySem.W.Frag) : List V → Hp → VK → Prop := fun xs H Q => ∃ (a : Addr) (vs : List V) (ws : List Way), xs = [.ref a] ∧ SqL K H a vs ∧ DpAll K H vs (ws.map encW) ∧
  ∀ (p : Addr) (vs' : List V), H p = none → DpAll K H vs' ((wsort ws).map encW) → Q (.ref p) (upd H p (.lst vs'))
theorem each_of_vals : ∀ {vs : List V} {us : List Value} {bs : List (Way × V)}, bs.map (·.2) = vs → Vals vs us → PySem.W.EachIs (fun u (b : Way × V) => RelV b.2 u) us bs
  | _, _, [], rfl, h => by cases h; exact .nil
  | _, _, b :: bs, rfl, h => by
    cases h with
    | cons r t => exact .cons r (each_of_vals rfl t)
theorem vals_of_each : ∀ {us : List Value} {bs : List (Way × V)}, PySem.W.EachIs (fun u (b : Way × V) => RelV b.2 u) us bs → Vals (bs.map (·.2)) us
  | _, _, .nil => .nil
  | _, _, .cons r t => .cons r (vals_of_each t)
theorem sort_pairs (bs : List (Way × V)) : (bs.mergeSort (fun a b => wle a.1 b.1)).map (·.1) = wsort (bs.map (·.1)) := by
  refine List.Perm.eq_of_pairwise (le := fun a b => wle a b = true) (fun a b _ _ h k => wle_anti a b h k) ?_ (wsort_sorted _) ?_
  · rw [List.pairwise_map]
    exact List.pairwise_mergeSort (le := fun (a b : Way × V) => wle a.1 b.1) (fun a b c => wle_trans a.1 b.1 c.1) (fun a b => wle_total a.1 b.1) bs
  · exact ((List.mergeSort_perm bs _).map _).trans (List.mergeSort_perm _ _).symm
theorem all_alike (ws : List Way) : PySem.W.AllAlike (ws.map encW) := by
  intro d hd d' hd'
  obtain ⟨a, _, rfl⟩ := List.mem_map.mp hd
  obtain ⟨b, _, rfl⟩ := List.mem_map.mp hd'
  rfl
theorem dpAll_zip {K : PySem.W.Frag} {H : Hp} : ∀ {vs : List V} {ws : List Way}, DpAll K H vs (ws.map encW) → ∃ bs : List (Way × V), bs.map (·.1) = ws ∧ bs.map (·.2) = vs ∧ ∀ b ∈ bs, Dp K H b.2 (encW b.1)
  | _, [], h => by
    cases h
    exact ⟨[], rfl, rfl, by simp⟩
  | _, w :: ws, h => by
    cases h with
    | @cons v vs _ _ h1 h2 =>
      obtain ⟨bs, e1, e2, e3⟩ := dpAll_zip h2
      refine ⟨(w, v) :: bs, by simp [e1], by simp [e2], ?_⟩
      intro b hb
      rcases List.mem_cons.mp hb with e | hb
      · subst e; exact h1
      · exact e3 b hb
theorem dpAll_of {K : PySem.W.Frag} {H : Hp} : ∀ {bs : List (Way × V)}, (∀ b ∈ bs, Dp K H b.2 (encW b.1)) → DpAll K H (bs.map (·.2)) ((bs.map (·.1)).map encW)
  | [], _ => .nil
  | b :: bs, h => .cons (h b (by simp)) (dpAll_of fun c hc => h c (List.mem_cons_of_mem _ hc))
section
variable {X : Cx}
theorem cr_sortedW (hu : X.A.units + 64 < cLine) : CallR X (.builtin "sorted") (rSortW X.K) := by
  intro pins s σ H xs us Q I r h
  obtain ⟨a, vs, ws, rfl, hs, hd, q⟩ := h
  obtain ⟨its, rv, hl, hz⟩ := I.list hs
  rw [Vals.ref1 r]
  obtain ⟨bs, e1, e2, e3⟩ := dpAll_zip hd
  have hsort : ∀ a b : Way × V, PySem.W.dataLe false (fun b : Way × V => encW b.1) a b = wle a.1 b.1 := fun a b => wle_data a.1 b.1
  have hle : PySem.W.dataLe false (fun b : Way × V => encW b.1) = fun a b => wle a.1 b.1 := by
    funext a b
    exact hsort a b
  have len1 : bs.length = vs.length := by rw [← e2, List.length_map]
  have ez : PySem.W.EachIs (fun u (b : Way × V) => RelV b.2 u) its bs := each_of_vals e2 rv
  have er : PySem.W.EachIs (fun u (b : Way × V) => ∃ as, Reads s.heap u (encW b.1) as) its bs := by
    refine (PySem.W.each_mem ez).mono ?_
    rintro u b ⟨hr, hb⟩
    exact Dp.reads I (encW b.1) b.2 u (e3 b hb) hr
  have eb : bs.map (fun b => encW b.1) = ws.map encW := by rw [← e1, List.map_map]; rfl
  refine PySem.W.sorted_data (enc := fun b : Way × V => encW b.1) (R := fun u (b : Way × V) => RelV b.2 u) hl.isList ez er (by rw [eb]; exact all_alike ws) (.inl ?_) (by rw [len1]; exact hz) (fun b hb => ?_) fun out ho eo => ?_
  · intro d hd'
    obtain ⟨b, _, rfl⟩ := List.mem_map.mp hd'
    exact ⟨_, _, rfl⟩
  · show X.A.units + 2 + (encW b.1).depth < cLine
    have : (encW b.1).depth ≤ 2 := by
      simp [encW, PyData.depth, PyData.depthAll]
    omega
  · rw [hle] at eo
    have sp := sort_pairs bs
    rw [e1] at sp
    have pm := List.mergeSort_perm bs (fun a b => wle a.1 b.1)
    generalize bs.mergeSort (fun a b => wle a.1 b.1) = cs at eo sp pm
    have hv := vals_of_each eo
    have hD : DpAll X.K H (cs.map (·.2)) ((wsort ws).map encW) := by
      rw [← sp]
      exact dpAll_of fun b hb => e3 b (pm.mem_iff.mp hb)
    obtain ⟨ep, he'⟩ := PyProof.Rows.sortedAll_at s.heap its out.toArray
    have hlen : (cs.map (·.2)).length ≤ sizeLine := by
      rw [List.length_map, pm.length_eq, len1]
      exact hz
    exact ⟨.ref _, upd H (s.heap.objs.size + 1) (.lst (cs.map (·.2))), I.laid (t' := s.toks) (fun _ _ => PyProof.Rows.sortedAll_old) (Nat.le_succ _) ⟨hlen, out, ep, hv, he'⟩, rfl, q _ _ (I.hok.fresh (Nat.le_succ _)) hD⟩
/-! ### repr(data) -/
def rReprD (K : PySem.W.Frag) : List V → Hp → VK → Prop := fun xs H Q => ∃ (a : Addr) (d : PyData), xs = [.ref a] ∧ Dp K H (.ref a) d ∧ d.showable = true ∧ d.hasDict = false ∧ d.depth ≤ 60 ∧ d.shown.length ≤ sizeLine ∧ Q (.str d.shown) H
theorem call_reprD (hg : X.A.guards = some []) (hu : X.A.units + 64 < cLine) : CallR X (.builtin "repr") (rReprD X.K) := by
  intro pins s σ H xs us Q I r h
  obtain ⟨a, d, rfl, hd, h1, h2, h3, h4, q⟩ := h
  rw [Vals.ref1 r]
  obtain ⟨as, hr⟩ := Dp.reads I d (.ref a) (.ref a) hd rfl
  exact repr_of_reads' hr h1 (PyData.noDict_hsm h2) hg (by omega) (fun _ _ e => e) (fun h' u tk hk => ⟨.str d.shown, H, I.kept (t' := tk) hk, ⟨u, rfl⟩, q⟩) h4
end
/-! ### enumerate(text) -/
def Itq (x : Str) : It :=
  ⟨fun i _ => i < x.cps.size, fun i H v H' => ∃ T c, v = .ref T ∧ H T = none ∧ x.cps[i]? = some c ∧ H' = upd H T (.tup [.int (i : Nat), .str ⟨#[c]⟩]), fun i _ => x.cps.size ≤ i⟩
theorem turn_enumS {P : Program} {w : World} {K : PySem.W.Frag} {elts : List Expr} {kk : Nat} {tpos : Pos} (x : Str) (t : Tok) (ty : String) (hty : ty = "str_ascii_iterator" ∨ ty = "str_iterator") (e it : Addr) :
    Turn P w K (.Tuple elts kk tpos) (Itq x) [e, it] e (fun i h => (∃ old, IsEnum h e it ((i : Nat) : Int) old) ∧ h.IsStrIter it ty x t i ∧ e ≠ it ∧ i ≤ x.cps.size) where
  mem := by simp
  obj := fun i h st b hb => by
    obtain ⟨⟨old, he⟩, ⟨o, ho, hc, hd⟩, _⟩ := st
    have e' : b = e ∨ b = it := by simpa using hb
    rcases e' with z | z
    · subst z
      exact ⟨_, he, fun v q => nomatch q⟩
    · subst z
      exact ⟨o, ho, fun v q => by rw [hd] at q; cases q⟩
  keep := fun i h h' st k => by
    obtain ⟨⟨old, he⟩, ⟨o, ho, hr⟩, hne⟩ := st
    exact ⟨⟨old, k e (by simp) _ he⟩, ⟨o, k it (by simp) o ho, hr⟩, hne⟩
  item := by
    intro X hP hw hK hc i pins s σ H E I hf st hg
    subst hP hw hK
    obtain ⟨⟨old, he⟩, hit, hne, _⟩ := st
    have hel : e < s.heap.objs.size := Heap.lt_size he
    have hil : it < s.heap.objs.size := by
      obtain ⟨_, q, _⟩ := hit
      exact Heap.lt_size q
    have D : Draws X.prog X.w X.A.in1 it [it] x.cps.size (fun i v => ∃ c u, x.cps[i]? = some c ∧ v = .str ⟨#[c]⟩ u) (fun i h => h.IsStrIter it ty x t i) := by
      rcases hty with z | z
      · rw [z]
        exact Draws.strAscii (A := X.A.in1) (I.ok.hd hc) it x t
      · rw [z]
        exact Draws.strWide (A := X.A.in1) (I.ok.hd hc) it x t
    refine wpAny_pyNext_enum_itemD D he hit hg hne (by simpa using hne) fun v h' tk hv ho hit' hT hsz hk => ?_
    obtain ⟨c, u, hcx, rfl⟩ := hv
    refine ⟨_, rfl, wpAny_letOwnedTupleGo_enum (s := { s with heap := h', toks := tk + 1 }) ho fun h2 he' sb => ?_⟩
    have hT2 : h2.get? s.heap.objs.size = some { cls := .type "tuple", data := .seq #[.int i tk, .str ⟨#[c]⟩ u] } := (sb.2 _ (Nat.ne_of_gt hel)).trans hT
    have new : ObjOk X.prog X.w (upd H s.heap.objs.size (.tup [.int (i : Nat), .str ⟨#[c]⟩])) h2 s.heap.objs.size (.tup [.int (i : Nat), .str ⟨#[c]⟩]) :=
      ⟨by show 2 ≤ sizeLine; decide, [.int i tk, .str ⟨#[c]⟩ u], .cons ⟨_, rfl⟩ (.cons ⟨_, rfl⟩ .nil), ⟨_, hT2, rfl, _, rfl⟩⟩
    have I1 : Inv X pins σ (upd H s.heap.objs.size (.tup [.int (i : Nat), .str ⟨#[c]⟩])) { s with heap := h2, toks := tk + 1 } :=
      I.turnedNew (ch := [e, it]) (fun b ob hb q => (sb.2 b (fun z => hb (by simp [z]))).trans (hk b ob (fun z => hb (by simp [z])) (fun z => hb (by simp [z])) q)) hf (Nat.le_refl _) new
    have hit2 : h2.IsStrIter it ty x t (i + 1) := by
      obtain ⟨o, q1, q2⟩ := hit'
      exact ⟨o, (sb.2 it (Ne.symm hne)).trans q1, q2⟩
    refine ⟨.ref s.heap.objs.size, _, I1, rfl, ⟨_, c, rfl, I.hok.fresh (Nat.le_refl _), hcx, rfl⟩, ⟨⟨.str ⟨#[c]⟩ u, ?_⟩, hit2, hne, hg⟩, fun b hb => ?_⟩
    · have e1 : ((i + 1 : Nat) : Int) = (i : Int) + 1 := by omega
      rw [e1]
      exact he'
    · have hb' : b < s.heap.objs.size := by
        have e' : b = e ∨ b = it := by simpa using hb
        rcases e' with z | z
        · rw [z]; exact hel
        · rw [z]; exact hil
      rw [upd_ne (Nat.ne_of_lt hb')]
      exact (hf b hb).1
  done := by
    intro X hP hw hK hc i pins s σ H E I hf st hg
    subst hP hw hK
    obtain ⟨⟨old, he⟩, hit, hne, hi⟩ := st
    obtain ⟨f0, f1, f2, f3, f4, f5⟩ := hf it (by simp)
    have hge : x.cps.size ≤ i := hg
    have ei : i = x.cps.size := Nat.le_antisymm hi hge
    subst ei
    have D : Draws X.prog X.w X.A.in1 it [it] x.cps.size (fun i v => ∃ c u, x.cps[i]? = some c ∧ v = .str ⟨#[c]⟩ u) (fun i h => h.IsStrIter it ty x t i) := by
      rcases hty with z | z
      · rw [z]
        exact Draws.strAscii (A := X.A.in1) (I.ok.hd hc) it x t
      · rw [z]
        exact Draws.strWide (A := X.A.in1) (I.ok.hd hc) it x t
    exact wpAny_pyNext_enum_endD D he hit fun h' eb => ⟨rfl, I.turned (t' := s.toks) (fun b o hb e => eb b o hb e) f0 f1 f3 f4 f5⟩
  self := fun A i s Q E st h => let ⟨⟨_, he⟩, _⟩ := st; wpAny_pyIter_enum he h
def iEnumS (ta : TA) : TI := fun σ H R => ta σ H fun vs H1 => ∃ x, vs = [.str x] ∧ R (Itq x) H1
theorem pi_enumS {X : Cx} {e : Expr} {ta : TA} {p pos tpos : Pos} {elts : List Expr} {kk : Nat} (hg : Gl X "enumerate") (hm : X.mg "enumerate" = none) (ha : PA X [e] ta) (hs : starEach [e] X.env = [(false, eval e X.env)] := by rfl) :
    PI X (.Tuple elts kk tpos) (.Call (.Name "enumerate" p) [e] [] pos) (iEnumS ta) := by
  refine ⟨fun pins s σ H R I h => ?_⟩
  refine Call_ (ld_blt I hg hm boot_enumerate (PyProof.Rows.callWith_type1 (thn (ha.run pos pins s σ H _ I h) fun us s1 ⟨vs, H1, I1, r1, q1⟩ => ?_) hs rfl))
  obtain ⟨x, ex, q⟩ := q1
  subst ex
  cases r1 with
  | cons r rr =>
    cases rr
    obtain ⟨t, rfl⟩ := r
    refine call_enumerate_str fun h' he hit hsz hk => wpAny_pyIter_enum he ?_
    have I2 : Inv X pins σ H1 { s1 with heap := h' } := I1.kept (t' := s1.toks) hk
    have hty : strIterType x = "str_ascii_iterator" ∨ strIterType x = "str_iterator" := by
      unfold strIterType
      split
      · exact .inl rfl
      · exact .inr rfl
    refine ⟨s1.heap.objs.size + 1, [s1.heap.objs.size + 1, s1.heap.objs.size], _, _, H1, rfl, I2, turn_enumS x t (strIterType x) hty (s1.heap.objs.size + 1) s1.heap.objs.size, ⟨⟨.none, he⟩, hit, Nat.succ_ne_self _, Nat.zero_le _⟩, fun b hb => ?_, q⟩
    have e' : b = s1.heap.objs.size + 1 ∨ b = s1.heap.objs.size := by simpa using hb
    have hle : s1.heap.objs.size ≤ b := by
      rcases e' with z | z
      · rw [z]; exact Nat.le_add_right _ _
      · rw [z]; exact Nat.le_refl _
    exact I1.fpOk hle (I1.hok.fresh hle)
end Rb
/-! Loops and comprehensions by what was taken so far. -/
namespace Rb
set_option linter.all false
set_option maxRecDepth 100000
set_option maxHeartbeats 4000000
open PySem PySem.Spec PyProof.Rows L2
theorem split_at {α : Type} {r : List α} {i : Nat} {x : α} (h : r[i]? = some x) : r = r.take i ++ x :: r.drop (i + 1) := by
  obtain ⟨hl, e⟩ := List.getElem?_eq_some_iff.mp h
  rw [← e, List.getElem_cons_drop, List.take_append_drop]
theorem take_snoc {α : Type} {r : List α} {i : Nat} {x : α} (h : r[i]? = some x) : r.take (i + 1) = r.take i ++ [x] := by
  rw [List.take_add_one, h]
  rfl
theorem take_all {α : Type} (r : List α) : r.take r.length = r := List.take_of_length_le (Nat.le_refl _)
theorem take_len {α : Type} {r : List α} {i : Nat} {x : α} (h : r[i]? = some x) : (r.take i).length = i := by
  obtain ⟨hl, _⟩ := List.getElem?_eq_some_iff.mp h
  rw [List.length_take]
  omega
section
variable {K : PySem.W.Frag} {g : TG} {tb : TS} {D : Ends} {σ : L2.St} {H : Hp} {α : Type}
theorem row_sign {r : Row} {i c : Nat} (h : (rS r).cps[i]? = some c) : ∃ x, r[i]? = some x ∧ (⟨#[c]⟩ : Str) = lS x := by
  rw [rS_get] at h
  cases e : r[i]? with
  | none => rw [e] at h; simp at h
  | some x =>
    rw [e] at h
    simp only [Option.map_some, Option.some.injEq] at h
    exact ⟨x, rfl, by rw [← h]; rfl⟩
/-- over the letters of a row -/
theorem for_row {r : Row} (Pv : Row → L2.St → Hp → Prop) (h0 : Pv [] σ H)
    (hs : ∀ pre x post σ H, r = pre ++ x :: post → Pv pre σ H → g (.str (lS x)) σ H fun σ2 H2 => tb { D with nx := Pv (pre ++ [x]), ct := Pv (pre ++ [x]), bk := D.nx } σ2 H2) (hd : ∀ σ H, Pv r σ H → D.nx σ H) :
    ∃ W : Nat → Nat → L2.St → Hp → Prop, (∃ m, W 0 m σ H) ∧ ∀ i m σ H, W i m σ H →
      ((Its (rS r)).stop i H ∧ D.nx σ H) ∨ ((Its (rS r)).go i H ∧ ∃ N : L2.St → Hp → Prop, (∀ σ' H', N σ' H' → ∃ m', m' < m ∧ W (i + 1) m' σ' H') ∧ ∀ x H', (Its (rS r)).yld i H x H' → g x σ H' fun σ2 H2 => tb { D with nx := N, ct := N, bk := D.nx } σ2 H2) := by
  have hsz : (rS r).cps.size = r.length := rS_len r
  refine ⟨fun i m σ H => m = r.length - i ∧ i ≤ r.length ∧ Pv (r.take i) σ H, ⟨r.length, by simp, Nat.zero_le _, by simpa using h0⟩, ?_⟩
  rintro i m σ H ⟨rfl, hi, p⟩
  by_cases hlt : i < r.length
  · refine .inr ⟨by show i < (rS r).cps.size; omega, Pv (r.take (i + 1)), fun σ' H' p' => ⟨r.length - (i + 1), by omega, rfl, hlt, p'⟩, fun x H' y => ?_⟩
    obtain ⟨e, c, hc, ex⟩ := y
    subst e
    obtain ⟨z, hz, ez⟩ := row_sign hc
    rw [ex, ez, take_snoc hz]
    exact hs (r.take i) z _ σ _ (split_at hz) p
  · have e : i = r.length := by omega
    subst e
    rw [take_all] at p
    exact .inl ⟨by show (rS r).cps.size ≤ r.length; omega, hd σ H p⟩
/-- over the letters of a row, counted -/
theorem for_erow {r : Row} (Pv : Row → L2.St → Hp → Prop) (h0 : Pv [] σ H)
    (hs : ∀ pre x post σ H T, r = pre ++ x :: post → Pv pre σ H → H T = none → g (.ref T) σ (upd H T (.tup [.int (pre.length : Nat), .str (lS x)])) fun σ2 H2 => tb { D with nx := Pv (pre ++ [x]), ct := Pv (pre ++ [x]), bk := D.nx } σ2 H2) (hd : ∀ σ H, Pv r σ H → D.nx σ H) :
    ∃ W : Nat → Nat → L2.St → Hp → Prop, (∃ m, W 0 m σ H) ∧ ∀ i m σ H, W i m σ H →
      ((Itq (rS r)).stop i H ∧ D.nx σ H) ∨ ((Itq (rS r)).go i H ∧ ∃ N : L2.St → Hp → Prop, (∀ σ' H', N σ' H' → ∃ m', m' < m ∧ W (i + 1) m' σ' H') ∧ ∀ x H', (Itq (rS r)).yld i H x H' → g x σ H' fun σ2 H2 => tb { D with nx := N, ct := N, bk := D.nx } σ2 H2) := by
  have hsz : (rS r).cps.size = r.length := rS_len r
  refine ⟨fun i m σ H => m = r.length - i ∧ i ≤ r.length ∧ Pv (r.take i) σ H, ⟨r.length, by simp, Nat.zero_le _, by simpa using h0⟩, ?_⟩
  rintro i m σ H ⟨rfl, hi, p⟩
  by_cases hlt : i < r.length
  · refine .inr ⟨by show i < (rS r).cps.size; omega, Pv (r.take (i + 1)), fun σ' H' p' => ⟨r.length - (i + 1), by omega, rfl, hlt, p'⟩, fun x H' y => ?_⟩
    obtain ⟨T, c, ex, hT, hc, e⟩ := y
    obtain ⟨z, hz, ez⟩ := row_sign hc
    subst e ex
    rw [ez, take_snoc hz]
    have := hs (r.take i) z _ σ H T (split_at hz) p hT
    rw [take_len hz] at this
    exact this
  · have e : i = r.length := by omega
    subst e
    rw [take_all] at p
    exact .inl ⟨by show (rS r).cps.size ≤ r.length; omega, hd σ H p⟩
/-- over a list of data that the body leaves as it is -/
theorem for_dl {a : Addr} {xs : List V} {ds : List α} (hlen : xs.length = ds.length) (Pv : List α → L2.St → Hp → Prop) (h0 : Pv [] σ H) (hl : ∀ pre σ H, Pv pre σ H → SqL K H a xs)
    (hs : ∀ pre d post x σ H, ds = pre ++ d :: post → xs[pre.length]? = some x → Pv pre σ H → g x σ H fun σ2 H2 => tb { D with nx := Pv (pre ++ [d]), ct := Pv (pre ++ [d]), bk := D.nx } σ2 H2) (hd : ∀ σ H, Pv ds σ H → D.nx σ H) :
    ∃ W : Nat → Nat → L2.St → Hp → Prop, (∃ m, W 0 m σ H) ∧ ∀ i m σ H, W i m σ H →
      ((Itl K a).stop i H ∧ D.nx σ H) ∨ ((Itl K a).go i H ∧ ∃ N : L2.St → Hp → Prop, (∀ σ' H', N σ' H' → ∃ m', m' < m ∧ W (i + 1) m' σ' H') ∧ ∀ x H', (Itl K a).yld i H x H' → g x σ H' fun σ2 H2 => tb { D with nx := N, ct := N, bk := D.nx } σ2 H2) := by
  refine for_list (xs := xs) (fun i σ H => Pv (ds.take i) σ H) (by simpa using h0) (fun i σ H _ p => hl _ σ H p) (fun i x σ H hx p => ?_) (fun σ H p => hd σ H (by rw [hlen, take_all] at p; exact p))
  obtain ⟨hlt, _⟩ := List.getElem?_eq_some_iff.mp hx
  have hd2 : ds[i]? = some ds[i] := List.getElem?_eq_getElem (by omega)
  rw [take_snoc hd2]
  refine hs (ds.take i) _ _ x σ H (split_at hd2) ?_ p
  rw [take_len hd2]
  exact hx
theorem for_dt {a : Addr} {xs : List V} {ds : List α} (hlen : xs.length = ds.length) (Pv : List α → L2.St → Hp → Prop) (h0 : Pv [] σ H) (hl : ∀ pre σ H, Pv pre σ H → SqT K H a xs)
    (hs : ∀ pre d post x σ H, ds = pre ++ d :: post → xs[pre.length]? = some x → Pv pre σ H → g x σ H fun σ2 H2 => tb { D with nx := Pv (pre ++ [d]), ct := Pv (pre ++ [d]), bk := D.nx } σ2 H2) (hd : ∀ σ H, Pv ds σ H → D.nx σ H) :
    ∃ W : Nat → Nat → L2.St → Hp → Prop, (∃ m, W 0 m σ H) ∧ ∀ i m σ H, W i m σ H →
      ((Itt K a).stop i H ∧ D.nx σ H) ∨ ((Itt K a).go i H ∧ ∃ N : L2.St → Hp → Prop, (∀ σ' H', N σ' H' → ∃ m', m' < m ∧ W (i + 1) m' σ' H') ∧ ∀ x H', (Itt K a).yld i H x H' → g x σ H' fun σ2 H2 => tb { D with nx := N, ct := N, bk := D.nx } σ2 H2) := by
  refine for_tup (xs := xs) (fun i σ H => Pv (ds.take i) σ H) (by simpa using h0) (fun i σ H _ p => hl _ σ H p) (fun i x σ H hx p => ?_) (fun σ H p => hd σ H (by rw [hlen, take_all] at p; exact p))
  obtain ⟨hlt, _⟩ := List.getElem?_eq_some_iff.mp hx
  have hd2 : ds[i]? = some ds[i] := List.getElem?_eq_getElem (by omega)
  rw [take_snoc hd2]
  refine hs (ds.take i) _ _ x σ H (split_at hd2) ?_ p
  rw [take_len hd2]
  exact hx
end
section
variable {K : PySem.W.Frag} {g : TG} {tt : TT} {te : TE} {vs : List Nat} {σ : L2.St} {H1 : Hp} {D : Addr} {Qd : Hp → Prop} {α : Type}
theorem lc_dl {a : Addr} {xs : List V} {ds : List α} (hlen : xs.length = ds.length) (Pv : List α → Hp → Prop) (h0 : Pv [] (upd H1 D (.lst []))) (hl : ∀ pre H, Pv pre H → SqL K H a xs)
    (hs : ∀ pre d post x H, ds = pre ++ d :: post → xs[pre.length]? = some x → Pv pre H → g x (wipe σ vs) H fun σ2 H2 => wipe σ2 vs = wipe σ vs ∧ tt σ2 H2 fun b H3 =>
      if b = true then te σ2 H3 fun y H4 => ∃ acc, H4 D = some (.lst acc) ∧ acc.length < sizeLine ∧ Pv (pre ++ [d]) (upd H4 D (.lst (acc ++ [y]))) else Pv (pre ++ [d]) H3) (hd : ∀ H, Pv ds H → Qd H) :
    ∃ W : Nat → Nat → Hp → Prop, (∃ m, W 0 m (upd H1 D (.lst []))) ∧ ∀ i m H, W i m H →
      ((Itl K a).stop i H ∧ Qd H) ∨ ((Itl K a).go i H ∧ ∃ Nx : Hp → Prop, (∀ H', Nx H' → ∃ m', m' < m ∧ W (i + 1) m' H') ∧ ∀ x H', (Itl K a).yld i H x H' → g x (wipe σ vs) H' fun σ2 H2 => wipe σ2 vs = wipe σ vs ∧ tt σ2 H2 fun b H3 =>
        if b = true then te σ2 H3 fun y H4 => ∃ acc, H4 D = some (.lst acc) ∧ acc.length < sizeLine ∧ Nx (upd H4 D (.lst (acc ++ [y]))) else Nx H3) := by
  refine lc_list (xs := xs) (fun i H => Pv (ds.take i) H) (by simpa using h0) (fun i H _ p => hl _ H p) (fun i x H hx p => ?_) (fun H p => hd H (by rw [hlen, take_all] at p; exact p))
  obtain ⟨hlt, _⟩ := List.getElem?_eq_some_iff.mp hx
  have hd2 : ds[i]? = some ds[i] := List.getElem?_eq_getElem (by omega)
  rw [take_snoc hd2]
  refine hs (ds.take i) _ _ x H (split_at hd2) ?_ p
  rw [take_len hd2]
  exact hx
theorem lc_dt {a : Addr} {xs : List V} {ds : List α} (hlen : xs.length = ds.length) (Pv : List α → Hp → Prop) (h0 : Pv [] (upd H1 D (.lst []))) (hl : ∀ pre H, Pv pre H → SqT K H a xs)
    (hs : ∀ pre d post x H, ds = pre ++ d :: post → xs[pre.length]? = some x → Pv pre H → g x (wipe σ vs) H fun σ2 H2 => wipe σ2 vs = wipe σ vs ∧ tt σ2 H2 fun b H3 =>
      if b = true then te σ2 H3 fun y H4 => ∃ acc, H4 D = some (.lst acc) ∧ acc.length < sizeLine ∧ Pv (pre ++ [d]) (upd H4 D (.lst (acc ++ [y]))) else Pv (pre ++ [d]) H3) (hd : ∀ H, Pv ds H → Qd H) :
    ∃ W : Nat → Nat → Hp → Prop, (∃ m, W 0 m (upd H1 D (.lst []))) ∧ ∀ i m H, W i m H →
      ((Itt K a).stop i H ∧ Qd H) ∨ ((Itt K a).go i H ∧ ∃ Nx : Hp → Prop, (∀ H', Nx H' → ∃ m', m' < m ∧ W (i + 1) m' H') ∧ ∀ x H', (Itt K a).yld i H x H' → g x (wipe σ vs) H' fun σ2 H2 => wipe σ2 vs = wipe σ vs ∧ tt σ2 H2 fun b H3 =>
        if b = true then te σ2 H3 fun y H4 => ∃ acc, H4 D = some (.lst acc) ∧ acc.length < sizeLine ∧ Nx (upd H4 D (.lst (acc ++ [y]))) else Nx H3) := by
  refine lc_tup (xs := xs) (fun i H => Pv (ds.take i) H) (by simpa using h0) (fun i H _ p => hl _ H p) (fun i x H hx p => ?_) (fun H p => hd H (by rw [hlen, take_all] at p; exact p))
  obtain ⟨hlt, _⟩ := List.getElem?_eq_some_iff.mp hx
  have hd2 : ds[i]? = some ds[i] := List.getElem?_eq_getElem (by omega)
  rw [take_snoc hd2]
  refine hs (ds.take i) _ _ x H (split_at hd2) ?_ p
  rw [take_len hd2]
  exact hx
theorem lc_row {r : Row} (Pv : Row → Hp → Prop) (h0 : Pv [] (upd H1 D (.lst [])))
    (hs : ∀ pre x post H, r = pre ++ x :: post → Pv pre H → g (.str (lS x)) (wipe σ vs) H fun σ2 H2 => wipe σ2 vs = wipe σ vs ∧ tt σ2 H2 fun b H3 =>
      if b = true then te σ2 H3 fun y H4 => ∃ acc, H4 D = some (.lst acc) ∧ acc.length < sizeLine ∧ Pv (pre ++ [x]) (upd H4 D (.lst (acc ++ [y]))) else Pv (pre ++ [x]) H3) (hd : ∀ H, Pv r H → Qd H) :
    ∃ W : Nat → Nat → Hp → Prop, (∃ m, W 0 m (upd H1 D (.lst []))) ∧ ∀ i m H, W i m H →
      ((Its (rS r)).stop i H ∧ Qd H) ∨ ((Its (rS r)).go i H ∧ ∃ Nx : Hp → Prop, (∀ H', Nx H' → ∃ m', m' < m ∧ W (i + 1) m' H') ∧ ∀ x H', (Its (rS r)).yld i H x H' → g x (wipe σ vs) H' fun σ2 H2 => wipe σ2 vs = wipe σ vs ∧ tt σ2 H2 fun b H3 =>
        if b = true then te σ2 H3 fun y H4 => ∃ acc, H4 D = some (.lst acc) ∧ acc.length < sizeLine ∧ Nx (upd H4 D (.lst (acc ++ [y]))) else Nx H3) := by
  have hsz : (rS r).cps.size = r.length := rS_len r
  refine ⟨fun i m H => m = r.length - i ∧ i ≤ r.length ∧ Pv (r.take i) H, ⟨r.length, by simp, Nat.zero_le _, by simpa using h0⟩, ?_⟩
  rintro i m H ⟨rfl, hi, p⟩
  by_cases hlt : i < r.length
  · refine .inr ⟨by show i < (rS r).cps.size; omega, Pv (r.take (i + 1)), fun H' p' => ⟨r.length - (i + 1), by omega, rfl, hlt, p'⟩, fun x H' y => ?_⟩
    obtain ⟨e, c, hc, ex⟩ := y
    subst e
    obtain ⟨z, hz, ez⟩ := row_sign hc
    rw [ex, ez, take_snoc hz]
    exact hs (r.take i) z _ _ (split_at hz) p
  · have e : i = r.length := by omega
    subst e
    rw [take_all] at p
    exact .inl ⟨by show (rS r).cps.size ≤ r.length; omega, hd H p⟩
end
/-! ### a list or a tuple -/
section
variable {X : Cx} {tg : Expr}
def iSeq (K : PySem.W.Frag) (tl : TE) : TI := fun σ H R => tl σ H fun x H1 => ∃ a, x = .ref a ∧ (((∃ xs, SqL K H1 a xs) ∧ R (Itl K a) H1) ∨ ((∃ xs, SqT K H1 a xs) ∧ R (Itt K a) H1))
theorem pi_seq {l : Expr} {tl : TE} (hl : PE X l tl) : PI X tg l (iSeq X.K tl) := by
  constructor
  intro pins s σ H R I h
  refine thn (hl.run pins s σ H _ I h) ?_
  rintro v s1 ⟨x, H1, I1, r1, a, rfl, q1⟩
  cases r1
  have new : ∀ b ∈ [s1.heap.objs.size], FpOk X pins H1 b := by
    intro b hb
    rw [List.mem_singleton.mp hb]
    exact I1.fpOk (Nat.le_refl _) (I1.hok.fresh (Nat.le_refl _))
  rcases q1 with ⟨⟨xs, hq⟩, q⟩ | ⟨⟨xs, hq⟩, q⟩
  · obtain ⟨its, _, p, _⟩ := I1.list hq
    exact wpAny_pyIter_list p.isList ⟨s1.heap.objs.size, [s1.heap.objs.size], _, _, H1, rfl, I1.kept (t' := s1.toks) (fun b o e => Heap.get?_push_of_some _ e), turn_list a _, ⟨_, Heap.get?_push_size _ rfl, rfl, rfl⟩, new, q⟩
  · obtain ⟨its, _, p, _⟩ := I1.tuple hq
    exact wpAny_pyIter_tuple (show s1.heap.IsTuple a its.toArray from p) ⟨s1.heap.objs.size, [s1.heap.objs.size], _, _, H1, rfl, I1.kept (t' := s1.toks) (fun b o e => Heap.get?_push_of_some _ e), turn_tuple a _, ⟨_, Heap.get?_push_size _ rfl, rfl, rfl⟩, new, q⟩
end
theorem yes_if {A B : Hp → Prop} {σ : L2.St} {H : Hp} (h : A H) : tYes σ H (fun b H3 => if b = true then A H3 else B H3) := by
  show if true = true then A H else B H
  rw [if_pos rfl]
  exact h
/-! ### two fors in one -/
section
variable {K : PySem.W.Frag} {g g1 : TG} {tt tt1 : TT} {te : TE} {wi1 : TI} {vs vs1 : List Nat} {σ : L2.St} {H1 : Hp} {D : Addr} {Qd : Hp → Prop} {α : Type}
theorem lc2_row {r : Row} (Pv : Row → Hp → Prop) (h0 : Pv [] (upd H1 D (.lst [])))
    (hs : ∀ pre x post H, r = pre ++ x :: post → Pv pre H → g (.str (lS x)) (wipe σ vs) H fun σ2 H2 => wipe σ2 vs = wipe σ vs ∧ tt σ2 H2 fun b H3 =>
      if b = true then wi1 σ2 H3 fun J1 H4 => ∃ W1 : Nat → Nat → Hp → Prop, (∃ m, W1 0 m H4) ∧ ∀ j k H, W1 j k H →
        (J1.stop j H ∧ Pv (pre ++ [x]) H) ∨ (J1.go j H ∧ ∃ Nx1 : Hp → Prop, (∀ H', Nx1 H' → ∃ k', k' < k ∧ W1 (j + 1) k' H') ∧ ∀ x H', J1.yld j H x H' → g1 x (wipe σ2 vs1) H' fun σ3 H5 => wipe σ3 vs1 = wipe σ2 vs1 ∧ tt1 σ3 H5 fun b H6 =>
          if b = true then te σ3 H6 fun y H7 => ∃ acc, H7 D = some (.lst acc) ∧ acc.length < sizeLine ∧ Nx1 (upd H7 D (.lst (acc ++ [y]))) else Nx1 H6)
      else Pv (pre ++ [x]) H3) (hd : ∀ H, Pv r H → Qd H) :
    ∃ W : Nat → Nat → Hp → Prop, (∃ m, W 0 m (upd H1 D (.lst []))) ∧ ∀ i m H, W i m H →
      ((Its (rS r)).stop i H ∧ Qd H) ∨ ((Its (rS r)).go i H ∧ ∃ Nx : Hp → Prop, (∀ H', Nx H' → ∃ m', m' < m ∧ W (i + 1) m' H') ∧ ∀ x H', (Its (rS r)).yld i H x H' → g x (wipe σ vs) H' fun σ2 H2 => wipe σ2 vs = wipe σ vs ∧ tt σ2 H2 fun b H3 =>
        if b = true then wi1 σ2 H3 fun J1 H4 => ∃ W1 : Nat → Nat → Hp → Prop, (∃ m, W1 0 m H4) ∧ ∀ j k H, W1 j k H →
          (J1.stop j H ∧ Nx H) ∨ (J1.go j H ∧ ∃ Nx1 : Hp → Prop, (∀ H', Nx1 H' → ∃ k', k' < k ∧ W1 (j + 1) k' H') ∧ ∀ x H', J1.yld j H x H' → g1 x (wipe σ2 vs1) H' fun σ3 H5 => wipe σ3 vs1 = wipe σ2 vs1 ∧ tt1 σ3 H5 fun b H6 =>
            if b = true then te σ3 H6 fun y H7 => ∃ acc, H7 D = some (.lst acc) ∧ acc.length < sizeLine ∧ Nx1 (upd H7 D (.lst (acc ++ [y]))) else Nx1 H6)
        else Nx H3) := by
  have hsz : (rS r).cps.size = r.length := rS_len r
  refine ⟨fun i m H => m = r.length - i ∧ i ≤ r.length ∧ Pv (r.take i) H, ⟨r.length, by simp, Nat.zero_le _, by simpa using h0⟩, ?_⟩
  rintro i m H ⟨rfl, hi, p⟩
  by_cases hlt : i < r.length
  · refine .inr ⟨by show i < (rS r).cps.size; omega, Pv (r.take (i + 1)), fun H' p' => ⟨r.length - (i + 1), by omega, rfl, hlt, p'⟩, fun x H' y => ?_⟩
    obtain ⟨e, c, hc, ex⟩ := y
    subst e
    obtain ⟨z, hz, ez⟩ := row_sign hc
    rw [ex, ez, take_snoc hz]
    exact hs (r.take i) z _ _ (split_at hz) p
  · have e : i = r.length := by omega
    subst e
    rw [take_all] at p
    exact .inl ⟨by show (rS r).cps.size ≤ r.length; omega, hd H p⟩
/-- the inner for, over a tuple -/
theorem in_dt {a : Addr} {xs : List V} {ds : List α} {H4 : Hp} {σ2 : L2.St} {Nx : Hp → Prop} (hlen : xs.length = ds.length) (Pv : List α → Hp → Prop) (h0 : Pv [] H4) (hl : ∀ pre H, Pv pre H → SqT K H a xs)
    (hs : ∀ pre d post x H, ds = pre ++ d :: post → xs[pre.length]? = some x → Pv pre H → g1 x (wipe σ2 vs1) H fun σ3 H5 => wipe σ3 vs1 = wipe σ2 vs1 ∧ tt1 σ3 H5 fun b H6 =>
      if b = true then te σ3 H6 fun y H7 => ∃ acc, H7 D = some (.lst acc) ∧ acc.length < sizeLine ∧ Pv (pre ++ [d]) (upd H7 D (.lst (acc ++ [y]))) else Pv (pre ++ [d]) H6) (hd : ∀ H, Pv ds H → Nx H) :
    ∃ W1 : Nat → Nat → Hp → Prop, (∃ m, W1 0 m H4) ∧ ∀ j k H, W1 j k H →
      ((Itt K a).stop j H ∧ Nx H) ∨ ((Itt K a).go j H ∧ ∃ Nx1 : Hp → Prop, (∀ H', Nx1 H' → ∃ k', k' < k ∧ W1 (j + 1) k' H') ∧ ∀ x H', (Itt K a).yld j H x H' → g1 x (wipe σ2 vs1) H' fun σ3 H5 => wipe σ3 vs1 = wipe σ2 vs1 ∧ tt1 σ3 H5 fun b H6 =>
        if b = true then te σ3 H6 fun y H7 => ∃ acc, H7 D = some (.lst acc) ∧ acc.length < sizeLine ∧ Nx1 (upd H7 D (.lst (acc ++ [y]))) else Nx1 H6) := by
  refine ⟨fun i m H => m = ds.length - i ∧ i ≤ ds.length ∧ Pv (ds.take i) H, ⟨ds.length, by simp, Nat.zero_le _, by simpa using h0⟩, ?_⟩
  rintro i m H ⟨rfl, hi, p⟩
  have q := hl _ H p
  by_cases hlt : i < ds.length
  · have hx : xs[i]? = some xs[i] := List.getElem?_eq_getElem (by omega)
    have hd2 : ds[i]? = some ds[i] := List.getElem?_eq_getElem hlt
    refine .inr ⟨⟨xs, xs[i], q, hx⟩, Pv (ds.take (i + 1)), fun H' p' => ⟨ds.length - (i + 1), by omega, rfl, hlt, p'⟩, fun x H' y => ?_⟩
    obtain ⟨e, y⟩ := y
    subst e
    rw [take_snoc hd2]
    refine hs (ds.take i) _ _ x _ (split_at hd2) ?_ p
    rw [take_len hd2]
    exact y xs q
  · have e : i = ds.length := by omega
    subst e
    rw [take_all] at p
    exact .inl ⟨⟨xs, q, by omega⟩, hd H p⟩
end
/-- while, by a word that counts down -/
theorem while_w {c : TT} {tb : TS} {D : Ends} {σ : L2.St} {H : Hp} (Pv : Nat → L2.St → Hp → Prop) (m0 : Nat) (h0 : Pv m0 σ H)
    (hs : ∀ m σ H, Pv m σ H → c σ H fun b H1 => if b = true then ∃ N : L2.St → Hp → Prop, (∀ σ' H', N σ' H' → ∃ m', m' < m ∧ Pv m' σ' H') ∧ tb { D with nx := N, ct := N, bk := D.nx } σ H1 else D.nx σ H1) : tWhile c tb D σ H :=
  ⟨Pv, ⟨m0, h0⟩, hs⟩
theorem ix_nat {n j : Nat} (hj : j < n) : ixN n ((j : Nat) : Int) = some j := by
  have h1 : (0 : Int) ≤ j := by omega
  have h2 : (j : Int) < n := by omega
  simp [ixN, h1, h2]
/-! ### what changed -/
/-- all but what stands at S is as it was -/
def Upto (S : List Addr) (H H' : Hp) : Prop := ∀ b o, H b = some o → b ∉ S → H' b = some o
theorem Upto.refl (S : List Addr) (H : Hp) : Upto S H H := fun _ _ h _ => h
theorem Upto.trans {S : List Addr} {H H1 H2 : Hp} (a : Upto S H H1) (b : Upto S H1 H2) : Upto S H H2 := fun c o h hn => b c o (a c o h hn) hn
theorem Upto.of {S : List Addr} {H H' : Hp} (e : Same H H') : Upto S H H' := fun b o h _ => e b o h
theorem same_new {H : Hp} {p : Addr} {o : HO} (h : H p = none) : Same H (upd H p o) := fun b u e => by rw [upd_ne (ne_of_none e h)]; exact e
theorem same_mut {H H' : Hp} {p : Addr} {o : HO} (e : Same H H') (h : H p = none) : Same H (upd H' p o) := fun b u hb => by rw [upd_ne (ne_of_none hb h)]; exact e b u hb
theorem upd_get {H : Hp} {p q : Addr} {o u : HO} (hq : H q = some u) (hne : q ≠ p) : upd H p o q = some u := by rw [upd_ne hne]; exact hq
theorem keep_upto {S : List Addr} {H H' : Hp} (e : Upto S H H') (hS : ∀ b ∈ S, Mut (H b)) : KeepT H H' := by
  constructor
  · intro a xs h
    exact e _ _ h fun hm => by
      have := hS a hm
      rw [h] at this
      exact this
  · intro a o u h
    exact e _ _ h fun hm => by
      have := hS a hm
      rw [h] at this
      exact this
theorem upto_new {S : List Addr} {H H' : Hp} {p : Addr} {o : HO} (e : Upto S H H') (h : H p = none) : Upto S H (upd H' p o) := fun b u hb hn => by
  rw [upd_ne (ne_of_none hb h)]
  exact e b u hb hn
theorem upto_in {S : List Addr} {H H' : Hp} {p : Addr} {o : HO} (e : Upto S H H') (h : p ∈ S) : Upto S H (upd H' p o) := fun b u hb hn => by
  have h1 : b ≠ p := fun z => hn (z ▸ h)
  rw [upd_ne h1]
  exact e b u hb hn
theorem upto_free {S : List Addr} {H H' : Hp} {p : Addr} (e : Upto S H H') (hS : ∀ b ∈ S, H b ≠ none → H' b ≠ none) (h : H' p = none) : H p = none := by
  cases q : H p with
  | none => rfl
  | some o =>
    by_cases hp : p ∈ S
    · exact absurd h (hS p hp (by rw [q]; simp))
    · rw [e p o q hp] at h
      cases h
/-! ### within a comprehension the written part is told by name -/
section
variable {X : Cx} {K : PySem.W.Frag}
theorem ix_listK (h : X.K = K) : IxR X (rIxL K) := by
  subst h
  exact ix_list
theorem ix_tupK (h : X.K = K) : IxR X (rIxT K) := by
  subst h
  exact ix_tup
theorem call_len_seqK (h : X.K = K) : CallR X (.builtin "len") (fun xs H Q => ∃ p ys, xs = [.ref p] ∧ (SqL K H p ys ∨ SqT K H p ys) ∧ Q (.int ys.length) H) := by
  subst h
  exact call_len_seq
theorem pe_fldK {e : Expr} {ta : TE} {f : Str} {pos : Pos} (h : X.K = K) (he : PE X e ta) (hb : attributeBase e f X.env (eval e X.env) = eval e X.env) : PE X (.Attribute e f pos) (tFld K ta f) := by
  subst h
  exact pe_fld he hb
end
end Rb
/-! enumerate(t) of a tuple; dict comprehensions over texts and tuples. -/
namespace Rb
set_option linter.all false
set_option maxRecDepth 100000
set_option maxHeartbeats 4000000
open PySem PySem.Spec PyProof.Rows L2
open AutoSeq1 (wpAny_loadPart')
set_option maxHeartbeats 1000000 in
theorem meets_enumerate_newT (l : Addr) (items : Array Value) (n : Nat) (dct : Option Addr) (sl : Array (Option Value)) :
    Meets (Builtin.«enumerate.__new__» ⟨[.type "enumerate", .ref l], []⟩) (fun _ R s => s.heap.get? l = some { cls := .type "tuple", dict := dct, data := .seq items n, slots := sl } ∧
      R (.ok (.ret (.ref (s.heap.push { cls := .type "tuple_iterator", data := .fields #[.ref l, .int 0 0] }).objs.size)))
        { s with heap := (s.heap.push { cls := .type "tuple_iterator", data := .fields #[.ref l, .int 0 0] }).push { cls := .type "enumerate", data := .fields #[.none, .bool false, .ref s.heap.objs.size, rawInt 0, .none, .none] } }) :=
  .of_wp fun prog w A R s h => by
    obtain ⟨hp, g, d, tk, os⟩ := s; obtain ⟨hl, h⟩ := h
    have hsub := sub_enumerate
    have hL : Heap.IsTuple (Shared.heap ⟨hp, g, d, tk, os⟩) l items := ⟨_, hl, rfl, n, rfl⟩
    wp_walk using wpAny_loadPart' hl
    refine wpAny_stack_any fun st => wpAny_pure ?_
    split
    · rename_i c _ _ _ _ _
      cases (c == Value.type "enumerate")
      · wp_walk using wpAny_loadPart' hl, wpAny_pyIter_tuple hL
        exact ⟨_, rfl, h⟩
      · wp_walk using wpAny_loadPart' hl, wpAny_pyIter_tuple hL
        exact ⟨_, rfl, h⟩
    · wp_walk using wpAny_loadPart' hl, wpAny_pyIter_tuple hL
      exact ⟨_, rfl, h⟩
section
variable {prog : Program} {w : World} {A : Around} {E : Value → Shared → Prop} {s : Shared}
theorem call_enumerate_tuple {l : Addr} {items : Array Value} {Q : Value → Shared → Prop} (hL : s.heap.IsTuple l items)
    (h : ∀ h', IsEnum h' (s.heap.objs.size + 1) s.heap.objs.size 0 .none → h'.IsTupleIter s.heap.objs.size l 0 → h'.objs.size = s.heap.objs.size + 2 →
      (∀ b o, s.heap.get? b = some o → h'.get? b = some o) → Q (.ref (s.heap.objs.size + 1)) { s with heap := h' }) :
    wpAny (model prog w) A (call (.type "enumerate") [.ref l]) Q E s := by
  obtain ⟨⟨c, dct, dt, sl⟩, hl, hc, n, hd⟩ := hL
  replace hc : c = .type "tuple" := hc
  replace hd : dt = .seq items n := hd
  subst hc hd
  refine callType_new F.called_enumerate (by decide) (F.typeCall_enumerate_1 _) (F.newCall_enumerate_1 _) (fun obj => F.args_object_init_2 obj _) F.entry_enumerate_new
    (meets_enumerate_newT l items n dct sl) ⟨hl, ?_⟩
  have hz : (s.heap.push { cls := .type "tuple_iterator", data := .fields #[.ref l, .int 0 0] }).objs.size = s.heap.objs.size + 1 := Heap.size_push ..
  show _ ∧ _
  rw [hz]
  have he : IsEnum ((s.heap.push { cls := .type "tuple_iterator", data := .fields #[.ref l, .int 0 0] }).push
      { cls := .type "enumerate", data := .fields #[.none, .bool false, .ref s.heap.objs.size, rawInt 0, .none, .none] }) (s.heap.objs.size + 1) s.heap.objs.size 0 .none := by
    have := Heap.get?_push_size (s.heap.push { cls := .type "tuple_iterator", data := .fields #[.ref l, .int 0 0] })
      (o := { cls := .type "enumerate", data := .fields #[.none, .bool false, .ref s.heap.objs.size, rawInt 0, .none, .none] }) rfl
    rw [hz] at this; exact this
  refine ⟨⟨_, he, rfl⟩, h _ he ⟨_, Heap.get?_push_of_some _ (Heap.get?_push_size _ rfl), rfl, rfl⟩ (by rw [Heap.size_push, hz]) fun b o x => Heap.get?_push_of_some _ (Heap.get?_push_of_some _ x)⟩
end
def IteT (K : PySem.W.Frag) (a : Addr) (xs : List V) : It :=
  ⟨fun i H => SqT K H a xs ∧ i < xs.length, fun i H v H' => ∃ T x, v = .ref T ∧ H T = none ∧ xs[i]? = some x ∧ H' = upd H T (.tup [.int (i : Nat), x]), fun i H => SqT K H a xs ∧ xs.length ≤ i⟩
theorem turn_enumT {P : Program} {w : World} {K : PySem.W.Frag} {elts : List Expr} {kk : Nat} {tpos : Pos} (a : Addr) (xs : List V) (e it : Addr) :
    Turn P w K (.Tuple elts kk tpos) (IteT K a xs) [e, it] e (fun i h => (∃ old, IsEnum h e it ((i : Nat) : Int) old) ∧ h.IsTupleIter it a i ∧ e ≠ it ∧ i ≤ xs.length) where
  mem := by simp
  obj := fun i h st b hb => by
    obtain ⟨⟨old, he⟩, ⟨o, ho, hc, hd⟩, _⟩ := st
    have e' : b = e ∨ b = it := by simpa using hb
    rcases e' with z | z
    · subst z
      exact ⟨_, he, fun v q => nomatch q⟩
    · subst z
      exact ⟨o, ho, fun v q => by rw [hd] at q; cases q⟩
  keep := fun i h h' st k => by
    obtain ⟨⟨old, he⟩, hit, hne⟩ := st
    exact ⟨⟨old, k e (by simp) _ he⟩, hit.at fun o q => k it (by simp) o q, hne⟩
  item := by
    intro X hP hw hK hc i pins s σ H E I hf st hg
    subst hP hw hK
    obtain ⟨⟨old, he⟩, hit, hne, _⟩ := st
    obtain ⟨hq, hlt⟩ := hg
    have hel : e < s.heap.objs.size := Heap.lt_size he
    have hil : it < s.heap.objs.size := by
      obtain ⟨_, q, _⟩ := hit
      exact Heap.lt_size q
    obtain ⟨its, rv, p, hz⟩ := I.tuple hq
    have p' : s.heap.IsTuple a its.toArray := p
    have hai : a ≠ it := by
      rintro rfl
      obtain ⟨o, q1, q2, _⟩ := id p'
      obtain ⟨o', r1, r2, _⟩ := id hit
      rw [q1] at r1
      cases r1
      rw [q2] at r2
      exact absurd (Value.type.inj r2) (by decide)
    have hae : a ≠ e := by
      rintro rfl
      obtain ⟨o, q1, q2, _⟩ := id p'
      rw [he] at q1
      cases q1
      exact absurd (Value.type.inj q2) (by decide)
    have hsz : its.toArray.size = xs.length := by rw [List.size_toArray, rv.length]
    have D := Draws.tuple (prog := X.prog) (w := X.w) (A := X.A.in1) (I.ok.hd hc) it a hai its.toArray
    refine wpAny_pyNext_enum_itemD D he ⟨hit, p'⟩ (by omega) hne (by simp; exact ⟨hne, fun z => hae z.symm⟩) fun v h' tk hv ho hit' hT hsz2 hk => ?_
    obtain ⟨x, hx⟩ : ∃ x, xs[i]? = some x := ⟨_, List.getElem?_eq_getElem hlt⟩
    obtain ⟨u, hu, rx⟩ := Vals.get rv hx
    have huv : v = u := by
      have hv' : its[i]? = some v := by simpa using hv
      rw [hu] at hv'
      exact (Option.some.inj hv').symm
    subst huv
    refine ⟨_, rfl, wpAny_letOwnedTupleGo_enum (s := { s with heap := h', toks := tk + 1 }) ho fun h2 he' sb => ?_⟩
    have hT2 : h2.get? s.heap.objs.size = some { cls := .type "tuple", data := .seq #[.int i tk, v] } := (sb.2 _ (Nat.ne_of_gt hel)).trans hT
    have new : ObjOk X.prog X.w (upd H s.heap.objs.size (.tup [.int (i : Nat), x])) h2 s.heap.objs.size (.tup [.int (i : Nat), x]) :=
      ⟨by show 2 ≤ sizeLine; decide, [.int i tk, v], .cons ⟨_, rfl⟩ (.cons rx .nil), ⟨_, hT2, rfl, _, rfl⟩⟩
    have I1 : Inv X pins σ (upd H s.heap.objs.size (.tup [.int (i : Nat), x])) { s with heap := h2, toks := tk + 1 } :=
      I.turnedNew (ch := [e, it]) (fun b ob hb q => (sb.2 b (fun z => hb (by simp [z]))).trans (hk b ob (fun z => hb (by simp [z])) (fun z => hb (by simp [z])) q)) hf (Nat.le_refl _) new
    have hit2 : h2.IsTupleIter it a (i + 1) := hit'.1.at fun o q => (sb.2 it (Ne.symm hne)).trans q
    refine ⟨.ref s.heap.objs.size, _, I1, rfl, ⟨_, x, rfl, I.hok.fresh (Nat.le_refl _), hx, rfl⟩, ⟨⟨v, ?_⟩, hit2, hne, hlt⟩, fun b hb => ?_⟩
    · have e1 : ((i + 1 : Nat) : Int) = (i : Int) + 1 := by omega
      rw [e1]
      exact he'
    · have hb' : b < s.heap.objs.size := by
        have e' : b = e ∨ b = it := by simpa using hb
        rcases e' with z | z
        · rw [z]; exact hel
        · rw [z]; exact hil
      rw [upd_ne (Nat.ne_of_lt hb')]
      exact (hf b hb).1
  done := by
    intro X hP hw hK hc i pins s σ H E I hf st hg
    subst hP hw hK
    obtain ⟨⟨old, he⟩, hit, hne, hi⟩ := st
    obtain ⟨f0, f1, f2, f3, f4, f5⟩ := hf it (by simp)
    obtain ⟨hq, hge⟩ := hg
    have ei : i = xs.length := Nat.le_antisymm hi hge
    obtain ⟨its, rv, p, hz⟩ := I.tuple hq
    have p' : s.heap.IsTuple a its.toArray := p
    have hai : a ≠ it := by
      rintro rfl
      obtain ⟨o, q1, q2, _⟩ := id p'
      obtain ⟨o', r1, r2, _⟩ := id hit
      rw [q1] at r1
      cases r1
      rw [q2] at r2
      exact absurd (Value.type.inj r2) (by decide)
    have hsz : its.toArray.size = xs.length := by rw [List.size_toArray, rv.length]
    have D := Draws.tuple (prog := X.prog) (w := X.w) (A := X.A.in1) (I.ok.hd hc) it a hai its.toArray
    have hit2 : s.heap.IsTupleIter it a its.toArray.size := by rw [hsz, ← ei]; exact hit
    exact wpAny_pyNext_enum_endD D he ⟨hit2, p'⟩ fun h' eb => ⟨rfl, I.turned (t' := s.toks) (fun b o hb e => eb b o hb e) f0 f1 f3 f4 f5⟩
  self := fun A i s Q E st h => let ⟨⟨_, he⟩, _⟩ := st; wpAny_pyIter_enum he h
def iEnumT (K : PySem.W.Frag) (ta : TA) : TI := fun σ H R => ta σ H fun vs H1 => ∃ a xs, vs = [.ref a] ∧ SqT K H1 a xs ∧ R (IteT K a xs) H1
theorem pi_enumT {X : Cx} {e : Expr} {ta : TA} {p pos tpos : Pos} {elts : List Expr} {kk : Nat} (hg : Gl X "enumerate") (hm : X.mg "enumerate" = none) (ha : PA X [e] ta) (hs : starEach [e] X.env = [(false, eval e X.env)] := by rfl) :
    PI X (.Tuple elts kk tpos) (.Call (.Name "enumerate" p) [e] [] pos) (iEnumT X.K ta) := by
  refine ⟨fun pins s σ H R I h => ?_⟩
  refine Call_ (ld_blt I hg hm boot_enumerate (PyProof.Rows.callWith_type1 (thn (ha.run pos pins s σ H _ I h) fun us s1 ⟨vs, H1, I1, r1, q1⟩ => ?_) hs rfl))
  obtain ⟨a, xs, ex, hq, q⟩ := q1
  subst ex
  cases r1 with
  | cons r rr =>
    cases rr
    cases r
    obtain ⟨its, rv, p', hz⟩ := I1.tuple hq
    refine call_enumerate_tuple (show s1.heap.IsTuple a its.toArray from p') fun h' he hit hsz hk => wpAny_pyIter_enum he ?_
    have I2 : Inv X pins σ H1 { s1 with heap := h' } := I1.kept (t' := s1.toks) hk
    refine ⟨s1.heap.objs.size + 1, [s1.heap.objs.size + 1, s1.heap.objs.size], _, _, H1, rfl, I2, turn_enumT a xs (s1.heap.objs.size + 1) s1.heap.objs.size, ⟨⟨.none, he⟩, hit, Nat.succ_ne_self _, Nat.zero_le _⟩, fun b hb => ?_, q⟩
    have e' : b = s1.heap.objs.size + 1 ∨ b = s1.heap.objs.size := by simpa using hb
    have hle : s1.heap.objs.size ≤ b := by
      rcases e' with z | z
      · rw [z]; exact Nat.le_add_right _ _
      · rw [z]; exact Nat.le_refl _
    exact I1.fpOk hle (I1.hok.fresh hle)
section
variable {K : PySem.W.Frag} {g : TG} {tb : TS} {D : Ends} {σ : L2.St} {H : Hp}
/-- over a tuple, counted -/
theorem for_etup {a : Addr} {xs : List V} (Pv : Nat → L2.St → Hp → Prop) (h0 : Pv 0 σ H) (hl : ∀ i σ H, Pv i σ H → SqT K H a xs)
    (hs : ∀ i x σ H T, xs[i]? = some x → Pv i σ H → H T = none → g (.ref T) σ (upd H T (.tup [.int (i : Nat), x])) fun σ2 H2 => tb { D with nx := Pv (i + 1), ct := Pv (i + 1), bk := D.nx } σ2 H2) (hd : ∀ σ H, Pv xs.length σ H → D.nx σ H) :
    ∃ W : Nat → Nat → L2.St → Hp → Prop, (∃ m, W 0 m σ H) ∧ ∀ i m σ H, W i m σ H →
      ((IteT K a xs).stop i H ∧ D.nx σ H) ∨ ((IteT K a xs).go i H ∧ ∃ N : L2.St → Hp → Prop, (∀ σ' H', N σ' H' → ∃ m', m' < m ∧ W (i + 1) m' σ' H') ∧ ∀ x H', (IteT K a xs).yld i H x H' → g x σ H' fun σ2 H2 => tb { D with nx := N, ct := N, bk := D.nx } σ2 H2) := by
  refine ⟨fun i m σ H => m = xs.length - i ∧ i ≤ xs.length ∧ Pv i σ H, ⟨xs.length, by simp, Nat.zero_le _, h0⟩, ?_⟩
  rintro i m σ H ⟨rfl, hi, p⟩
  by_cases hlt : i < xs.length
  · refine .inr ⟨⟨hl i σ H p, hlt⟩, Pv (i + 1), fun σ' H' p' => ⟨xs.length - (i + 1), by omega, rfl, hlt, p'⟩, fun x H' y => ?_⟩
    obtain ⟨T, z, rfl, hT, hz, rfl⟩ := y
    exact hs i z σ H T hz p hT
  · have e : i = xs.length := by omega
    subst e
    exact .inl ⟨⟨hl _ σ H p, Nat.le_refl _⟩, hd σ H p⟩
/-- a dict comprehension over the letters of a row -/
theorem dc_row {tt : TT} {tk tv : TE} {vs : List Nat} {H1 : Hp} {A : Addr} {Qd : Hp → Prop} {r : Row} (Pv : Row → Hp → Prop) (h0 : Pv [] (upd H1 A (.dK [])))
    (hs : ∀ pre x post H, r = pre ++ x :: post → Pv pre H → g (.str (lS x)) (wipe σ vs) H fun σ2 H2 => wipe σ2 vs = wipe σ vs ∧ tt σ2 H2 fun b H3 =>
      if b = true then tk σ2 H3 fun y H4 => tv σ2 H4 fun z H5 => ∃ kvs k, y = kV k ∧ H5 A = some (.dK kvs) ∧ kvs.length < sizeLine ∧ Pv (pre ++ [x]) (upd H5 A (.dK (putK kvs k z))) else Pv (pre ++ [x]) H3) (hd : ∀ H, Pv r H → Qd H) :
    ∃ W : Nat → Nat → Hp → Prop, (∃ m, W 0 m (upd H1 A (.dK []))) ∧ ∀ i m H, W i m H →
      ((Its (rS r)).stop i H ∧ Qd H) ∨ ((Its (rS r)).go i H ∧ ∃ Nx : Hp → Prop, (∀ H', Nx H' → ∃ m', m' < m ∧ W (i + 1) m' H') ∧ ∀ x H', (Its (rS r)).yld i H x H' → g x (wipe σ vs) H' fun σ2 H2 => wipe σ2 vs = wipe σ vs ∧ tt σ2 H2 fun b H3 =>
        if b = true then tk σ2 H3 fun y H4 => tv σ2 H4 fun z H5 => ∃ kvs k, y = kV k ∧ H5 A = some (.dK kvs) ∧ kvs.length < sizeLine ∧ Nx (upd H5 A (.dK (putK kvs k z))) else Nx H3) := by
  have hsz : (rS r).cps.size = r.length := rS_len r
  refine ⟨fun i m H => m = r.length - i ∧ i ≤ r.length ∧ Pv (r.take i) H, ⟨r.length, by simp, Nat.zero_le _, by simpa using h0⟩, ?_⟩
  rintro i m H ⟨rfl, hi, p⟩
  by_cases hlt : i < r.length
  · refine .inr ⟨by show i < (rS r).cps.size; omega, Pv (r.take (i + 1)), fun H' p' => ⟨r.length - (i + 1), by omega, rfl, hlt, p'⟩, fun x H' y => ?_⟩
    obtain ⟨e, c, hc, ex⟩ := y
    subst e
    obtain ⟨z, hz, ez⟩ := row_sign hc
    rw [ex, ez, take_snoc hz]
    exact hs (r.take i) z _ _ (split_at hz) p
  · have e : i = r.length := by omega
    subst e
    rw [take_all] at p
    exact .inl ⟨by show (rS r).cps.size ≤ r.length; omega, hd H p⟩
end
end Rb
/-! The text by places; what the top has left. Printed by gen.py. -/
namespace Rb
set_option linter.all false
set_option maxRecDepth 100000
set_option maxHeartbeats 4000000
open PySem PySem.Spec PyProof.Rows L2
def top (i : Nat) : Stmt := PySem.Challenge.pw_runsback_k71_whole_many_denied_at_once.main.body.getD i (.Pass ⟨0, 0, 0, 0⟩)
abbrev s_is_integer : Stmt := top 10
abbrev N_is_integer : List Str := ["thing"]
theorem sc_is_integer : FnScope ["thing"] ["thing"] (defScope s_is_integer) := ⟨rfl, rfl, rfl, by decide +kernel, rfl, by decide +kernel, by decide +kernel⟩
abbrev s_is_listed : Stmt := top 11
abbrev N_is_listed : List Str := ["thing"]
theorem sc_is_listed : FnScope ["thing"] ["thing"] (defScope s_is_listed) := ⟨rfl, rfl, rfl, by decide +kernel, rfl, by decide +kernel, by decide +kernel⟩
abbrev s_is_string_of : Stmt := top 12
abbrev N_is_string_of : List Str := ["thing", "signs", "sign"]
theorem sc_is_string_of : FnScope ["thing", "signs", "sign"] ["thing", "signs"] (defScope s_is_string_of) := ⟨rfl, rfl, rfl, by decide +kernel, rfl, by decide +kernel, by decide +kernel⟩
abbrev s_is_word : Stmt := top 13
abbrev N_is_word : List Str := ["thing"]
theorem sc_is_word : FnScope ["thing"] ["thing"] (defScope s_is_word) := ⟨rfl, rfl, rfl, by decide +kernel, rfl, by decide +kernel, by decide +kernel⟩
abbrev s_is_deeds : Stmt := top 14
abbrev N_is_deeds : List Str := ["thing", "at"]
theorem sc_is_deeds : FnScope ["thing", "at"] ["thing"] (defScope s_is_deeds) := ⟨rfl, rfl, rfl, by decide +kernel, rfl, by decide +kernel, by decide +kernel⟩
abbrev s_undoing_of : Stmt := top 15
abbrev N_undoing_of : List Str := ["letter"]
theorem sc_undoing_of : FnScope ["letter"] ["letter"] (defScope s_undoing_of) := ⟨rfl, rfl, rfl, by decide +kernel, rfl, by decide +kernel, by decide +kernel⟩
abbrev s_letters_over : Stmt := top 16
abbrev N_letters_over : List Str := ["deeds", "deed", "letter"]
theorem sc_letters_over : FnScope ["deeds", "deed", "letter"] ["deeds"] (defScope s_letters_over) := ⟨rfl, rfl, rfl, by decide +kernel, rfl, by decide +kernel, by decide +kernel⟩
abbrev s_is_row_over : Stmt := top 17
abbrev N_is_row_over : List Str := ["deeds", "thing"]
theorem sc_is_row_over : FnScope ["deeds", "thing"] ["deeds", "thing"] (defScope s_is_row_over) := ⟨rfl, rfl, rfl, by decide +kernel, rfl, by decide +kernel, by decide +kernel⟩
abbrev s_are_rows_over : Stmt := top 18
abbrev N_are_rows_over : List Str := ["deeds", "thing", "most", "longest", "row"]
theorem sc_are_rows_over : FnScope ["deeds", "thing", "most", "longest", "row"] ["deeds", "thing", "most", "longest"] (defScope s_are_rows_over) := ⟨rfl, rfl, rfl, by decide +kernel, rfl, by decide +kernel, by decide +kernel⟩
abbrev s_check_row : Stmt := top 19
abbrev N_check_row : List Str := ["deeds", "thing"]
theorem sc_check_row : FnScope ["deeds", "thing"] ["deeds", "thing"] (defScope s_check_row) := ⟨rfl, rfl, rfl, by decide +kernel, rfl, by decide +kernel, by decide +kernel⟩
abbrev s_check_deeds : Stmt := top 20
abbrev N_check_deeds : List Str := ["thing"]
theorem sc_check_deeds : FnScope ["thing"] ["thing"] (defScope s_check_deeds) := ⟨rfl, rfl, rfl, by decide +kernel, rfl, by decide +kernel, by decide +kernel⟩
abbrev s_check_rows : Stmt := top 21
abbrev N_check_rows : List Str := ["deeds", "thing", "most", "longest"]
theorem sc_check_rows : FnScope ["deeds", "thing", "most", "longest"] ["deeds", "thing", "most", "longest"] (defScope s_check_rows) := ⟨rfl, rfl, rfl, by decide +kernel, rfl, by decide +kernel, by decide +kernel⟩
abbrev s_Places___init__ : Stmt := inClass (top 23) 0
abbrev N_Places___init__ : List Str := ["self", "many"]
theorem sc_Places___init__ : FnScope ["self", "many"] ["self", "many"] (defScope s_Places___init__) := ⟨rfl, rfl, rfl, by decide +kernel, rfl, by decide +kernel, by decide +kernel⟩
abbrev s_Places_head : Stmt := inClass (top 23) 1
abbrev N_Places_head : List Str := ["self", "place"]
theorem sc_Places_head : FnScope ["self", "place"] ["self", "place"] (defScope s_Places_head) := ⟨rfl, rfl, rfl, by decide +kernel, rfl, by decide +kernel, by decide +kernel⟩
abbrev s_Places_join : Stmt := inClass (top 23) 2
abbrev N_Places_join : List Str := ["self", "one", "other", "first", "second"]
theorem sc_Places_join : FnScope ["self", "one", "other", "first", "second"] ["self", "one", "other"] (defScope s_Places_join) := ⟨rfl, rfl, rfl, by decide +kernel, rfl, by decide +kernel, by decide +kernel⟩
abbrev s_forward_ways : Stmt := top 24
abbrev N_forward_ways : List Str := ["arrows", "found", "place", "letter", "goal"]
theorem sc_forward_ways : FnScope ["arrows", "found", "place", "letter", "goal"] ["arrows"] (defScope s_forward_ways) := ⟨rfl, rfl, rfl, by decide +kernel, rfl, by decide +kernel, by decide +kernel⟩
abbrev s_join_once : Stmt := top 25
abbrev N_join_once : List Str := ["places", "ways", "changed", "ahead", "behind", "place", "deed", "goal", "one", "two"]
theorem sc_join_once : FnScope ["places", "ways", "changed", "ahead", "behind", "place", "deed", "goal", "one", "two"] ["places", "ways"] (defScope s_join_once) := ⟨rfl, rfl, rfl, by decide +kernel, rfl, by decide +kernel, by decide +kernel⟩
abbrev s_joined_places : Stmt := top 26
abbrev N_joined_places : List Str := ["many", "arrows", "places", "place", "letter", "goal", "ways"]
theorem sc_joined_places : FnScope ["many", "arrows", "places", "place", "letter", "goal", "ways"] ["many", "arrows"] (defScope s_joined_places) := ⟨rfl, rfl, rfl, by decide +kernel, rfl, by decide +kernel, by decide +kernel⟩
abbrev s_head_ways : Stmt := top 27
abbrev N_head_ways : List Str := ["places", "ways", "found", "place", "deed", "goal"]
theorem sc_head_ways : FnScope ["places", "ways", "found", "place", "deed", "goal"] ["places", "ways"] (defScope s_head_ways) := ⟨rfl, rfl, rfl, by decide +kernel, rfl, by decide +kernel, by decide +kernel⟩
abbrev s_hanging : Stmt := top 28
abbrev N_hanging : List Str := ["ways", "base", "near", "place", "deed", "goal", "found", "waiting", "way"]
theorem sc_hanging : FnScope ["ways", "base", "near", "place", "deed", "goal", "found", "waiting", "way"] ["ways", "base"] (defScope s_hanging) := ⟨rfl, rfl, rfl, by decide +kernel, rfl, by decide +kernel, by decide +kernel⟩
abbrev s_is_tail : Stmt := top 29
abbrev N_is_tail : List Str := ["ends", "base", "way", "place", "deed", "goal"]
theorem sc_is_tail : FnScope ["ends", "base", "way", "place", "deed", "goal"] ["ends", "base", "way"] (defScope s_is_tail) := ⟨rfl, rfl, rfl, by decide +kernel, rfl, by decide +kernel, by decide +kernel⟩
abbrev s_without_tails : Stmt := top 30
abbrev N_without_tails : List Str := ["ways", "base", "many", "ends", "place", "deed", "goal", "way"]
theorem sc_without_tails : FnScope ["ways", "base", "many", "ends", "place", "deed", "goal", "way"] ["ways", "base"] (defScope s_without_tails) := ⟨rfl, rfl, rfl, by decide +kernel, rfl, by decide +kernel, by decide +kernel⟩
abbrev s_steps_of : Stmt := top 31
abbrev N_steps_of : List Str := ["ways", "steps", "place", "deed", "goal"]
theorem sc_steps_of : FnScope ["ways", "steps", "place", "deed", "goal"] ["ways"] (defScope s_steps_of) := ⟨rfl, rfl, rfl, by decide +kernel, rfl, by decide +kernel, by decide +kernel⟩
abbrev s_numbered : Stmt := top 32
abbrev N_numbered : List Str := ["deeds", "ways", "base", "steps", "numbers", "waiting", "at", "letter", "goal", "found", "place", "deed"]
theorem sc_numbered : FnScope ["deeds", "ways", "base", "steps", "numbers", "waiting", "at", "letter", "goal", "found", "place", "deed"] ["deeds", "ways", "base"] (defScope s_numbered) := ⟨rfl, rfl, rfl, by decide +kernel, rfl, by decide +kernel, by decide +kernel⟩
abbrev s_trimmed : Stmt := top 33
abbrev N_trimmed : List Str := ["deeds", "ways", "base"]
theorem sc_trimmed : FnScope ["deeds", "ways", "base"] ["deeds", "ways", "base"] (defScope s_trimmed) := ⟨rfl, rfl, rfl, by decide +kernel, rfl, by decide +kernel, by decide +kernel⟩
abbrev s_folded_ways : Stmt := top 34
abbrev N_folded_ways : List Str := ["deeds", "many", "arrows", "base", "places"]
theorem sc_folded_ways : FnScope ["deeds", "many", "arrows", "base", "places"] ["deeds", "many", "arrows", "base"] (defScope s_folded_ways) := ⟨rfl, rfl, rfl, by decide +kernel, rfl, by decide +kernel, by decide +kernel⟩
abbrev s_chain : Stmt := top 35
abbrev N_chain : List Str := ["row", "first", "last", "fresh", "found", "place", "at", "letter", "goal"]
theorem sc_chain : FnScope ["row", "first", "last", "fresh", "found", "place", "at", "letter", "goal"] ["row", "first", "last", "fresh"] (defScope s_chain) := ⟨rfl, rfl, rfl, by decide +kernel, rfl, by decide +kernel, by decide +kernel⟩
abbrev s_ring_end : Stmt := top 36
abbrev N_ring_end : List Str := ["behind", "place"]
theorem sc_ring_end : FnScope ["behind", "place"] ["behind", "place"] (defScope s_ring_end) := ⟨rfl, rfl, rfl, by decide +kernel, rfl, by decide +kernel, by decide +kernel⟩
abbrev s_filled : Stmt := top 37
abbrev N_filled : List Str := ["deeds", "size", "ways", "moves", "deed", "ahead", "behind", "place", "letter", "goal", "row"]
theorem sc_filled : FnScope ["deeds", "size", "ways", "moves", "deed", "ahead", "behind", "place", "letter", "goal", "row"] ["deeds", "size", "ways"] (defScope s_filled) := ⟨rfl, rfl, rfl, by decide +kernel, rfl, by decide +kernel, by decide +kernel⟩
abbrev s_net_letters : Stmt := top 39
abbrev N_net_letters : List Str := ["row", "kept", "letter"]
theorem sc_net_letters : FnScope ["row", "kept", "letter"] ["row"] (defScope s_net_letters) := ⟨rfl, rfl, rfl, by decide +kernel, rfl, by decide +kernel, by decide +kernel⟩
abbrev s_turned_back : Stmt := top 41
abbrev N_turned_back : List Str := ["move", "found", "standing", "goal"]
theorem sc_turned_back : FnScope ["move", "found", "standing", "goal"] ["move"] (defScope s_turned_back) := ⟨rfl, rfl, rfl, by decide +kernel, rfl, by decide +kernel, by decide +kernel⟩
abbrev s_is_standing : Stmt := top 44
abbrev N_is_standing : List Str := ["size", "thing"]
theorem sc_is_standing : FnScope ["size", "thing"] ["size", "thing"] (defScope s_is_standing) := ⟨rfl, rfl, rfl, by decide +kernel, rfl, by decide +kernel, by decide +kernel⟩
abbrev s_is_move : Stmt := top 45
abbrev N_is_move : List Str := ["size", "thing", "seen", "standing"]
theorem sc_is_move : FnScope ["size", "thing", "seen", "standing"] ["size", "thing"] (defScope s_is_move) := ⟨rfl, rfl, rfl, by decide +kernel, rfl, by decide +kernel, by decide +kernel⟩
abbrev s_are_moves : Stmt := top 46
abbrev N_are_moves : List Str := ["deeds", "thing", "deed", "first"]
theorem sc_are_moves : FnScope ["deeds", "thing", "deed", "first"] ["deeds", "thing"] (defScope s_are_moves) := ⟨rfl, rfl, rfl, by decide +kernel, rfl, by decide +kernel, by decide +kernel⟩
abbrev s_all_moves : Stmt := top 47
abbrev N_all_moves : List Str := ["deeds", "moves", "found", "deed"]
theorem sc_all_moves : FnScope ["deeds", "moves", "found", "deed"] ["deeds", "moves"] (defScope s_all_moves) := ⟨rfl, rfl, rfl, by decide +kernel, rfl, by decide +kernel, by decide +kernel⟩
abbrev s_World___init__ : Stmt := inClass (top 48) 0
abbrev N_World___init__ : List Str := ["self", "deeds", "moves"]
theorem sc_World___init__ : FnScope ["self", "deeds", "moves"] ["self", "deeds", "moves"] (defScope s_World___init__) := ⟨rfl, rfl, rfl, by decide +kernel, rfl, by decide +kernel, by decide +kernel⟩
abbrev s_World_keep : Stmt := inClass (top 48) 1
abbrev N_World_keep : List Str := ["self", "deeds", "moves", "letter"]
theorem sc_World_keep : FnScope ["self", "deeds", "moves", "letter"] ["self", "deeds", "moves"] (defScope s_World_keep) := ⟨rfl, rfl, rfl, by decide +kernel, rfl, by decide +kernel, by decide +kernel⟩
abbrev s_World___eq__ : Stmt := inClass (top 48) 3
abbrev N_World___eq__ : List Str := ["self", "thing"]
theorem sc_World___eq__ : FnScope ["self", "thing"] ["self", "thing"] (defScope s_World___eq__) := ⟨rfl, rfl, rfl, by decide +kernel, rfl, by decide +kernel, by decide +kernel⟩
abbrev s_World_moves : Stmt := inClass (top 48) 2
abbrev N_World_moves : List Str := ["self", "deed"]
theorem sc_World_moves : FnScope ["self", "deed"] ["self"] (defScope s_World_moves) := ⟨rfl, rfl, rfl, by decide +kernel, rfl, by decide +kernel, by decide +kernel⟩
abbrev s_RawWorld___init__ : Stmt := inClass (top 49) 0
abbrev N_RawWorld___init__ : List Str := ["self", "deeds", "moves"]
theorem sc_RawWorld___init__ : FnScope ["self", "deeds", "moves"] ["self", "deeds", "moves"] (defScope s_RawWorld___init__) := ⟨rfl, rfl, rfl, by decide +kernel, rfl, by decide +kernel, by decide +kernel⟩
abbrev s_check_standing : Stmt := top 50
abbrev N_check_standing : List Str := ["world", "standing"]
theorem sc_check_standing : FnScope ["world", "standing"] ["world", "standing"] (defScope s_check_standing) := ⟨rfl, rfl, rfl, by decide +kernel, rfl, by decide +kernel, by decide +kernel⟩
abbrev s_led : Stmt := top 51
abbrev N_led : List Str := ["world", "standing", "row", "letter"]
theorem sc_led : FnScope ["world", "standing", "row", "letter"] ["world", "standing", "row"] (defScope s_led) := ⟨rfl, rfl, rfl, by decide +kernel, rfl, by decide +kernel, by decide +kernel⟩
abbrev s_Web___init__ : Stmt := inClass (top 55) 0
abbrev N_Web___init__ : List Str := ["self", "deeds", "size", "ways", "steps", "place", "deed", "goal"]
theorem sc_Web___init__ : FnScope ["self", "deeds", "size", "ways", "steps", "place", "deed", "goal"] ["self", "deeds", "size", "ways"] (defScope s_Web___init__) := ⟨rfl, rfl, rfl, by decide +kernel, rfl, by decide +kernel, by decide +kernel⟩
abbrev s_Web___eq__ : Stmt := inClass (top 55) 1
abbrev N_Web___eq__ : List Str := ["self", "other"]
theorem sc_Web___eq__ : FnScope ["self", "other"] ["self", "other"] (defScope s_Web___eq__) := ⟨rfl, rfl, rfl, by decide +kernel, rfl, by decide +kernel, by decide +kernel⟩
abbrev s_folded : Stmt := top 56
abbrev N_folded : List Str := ["deeds", "many", "arrows", "base", "size", "ways"]
theorem sc_folded : FnScope ["deeds", "many", "arrows", "base", "size", "ways"] ["deeds", "many", "arrows", "base"] (defScope s_folded) := ⟨rfl, rfl, rfl, by decide +kernel, rfl, by decide +kernel, by decide +kernel⟩
abbrev s_check_makers : Stmt := top 57
abbrev N_check_makers : List Str := ["deeds", "rows"]
theorem sc_check_makers : FnScope ["deeds", "rows"] ["deeds", "rows"] (defScope s_check_makers) := ⟨rfl, rfl, rfl, by decide +kernel, rfl, by decide +kernel, by decide +kernel⟩
abbrev s_made_web : Stmt := top 58
abbrev N_made_web : List Str := ["deeds", "rows", "arrows", "fresh", "row", "letters"]
theorem sc_made_web : FnScope ["deeds", "rows", "arrows", "fresh", "row", "letters"] ["deeds", "rows"] (defScope s_made_web) := ⟨rfl, rfl, rfl, by decide +kernel, rfl, by decide +kernel, by decide +kernel⟩
abbrev s_Grown___init__ : Stmt := inClass (top 62) 0
abbrev N_Grown___init__ : List Str := ["self", "web"]
theorem sc_Grown___init__ : FnScope ["self", "web"] ["self", "web"] (defScope s_Grown___init__) := ⟨rfl, rfl, rfl, by decide +kernel, rfl, by decide +kernel, by decide +kernel⟩
abbrev s_Grown_go : Stmt := inClass (top 62) 1
abbrev N_Grown_go : List Str := ["self", "place", "letter", "goal", "way"]
theorem sc_Grown_go : FnScope ["self", "place", "letter", "goal", "way"] ["self", "place", "letter"] (defScope s_Grown_go) := ⟨rfl, rfl, rfl, by decide +kernel, rfl, by decide +kernel, by decide +kernel⟩
abbrev s_Grown_lead : Stmt := inClass (top 62) 2
abbrev N_Grown_lead : List Str := ["self", "row", "place", "letter"]
theorem sc_Grown_lead : FnScope ["self", "row", "place", "letter"] ["self", "row"] (defScope s_Grown_lead) := ⟨rfl, rfl, rfl, by decide +kernel, rfl, by decide +kernel, by decide +kernel⟩
abbrev s_check_home : Stmt := top 63
abbrev N_check_home : List Str := ["deeds", "rows", "denied"]
theorem sc_check_home : FnScope ["deeds", "rows", "denied"] ["deeds", "rows", "denied"] (defScope s_check_home) := ⟨rfl, rfl, rfl, by decide +kernel, rfl, by decide +kernel, by decide +kernel⟩
abbrev s_made_home : Stmt := top 64
abbrev N_made_home : List Str := ["deeds", "rows", "denied", "grown", "row"]
theorem sc_made_home : FnScope ["deeds", "rows", "denied", "grown", "row"] ["deeds", "rows", "denied"] (defScope s_made_home) := ⟨rfl, rfl, rfl, by decide +kernel, rfl, by decide +kernel, by decide +kernel⟩
abbrev s_home : Stmt := top 65
abbrev N_home : List Str := ["deeds", "rows", "denied"]
theorem sc_home : FnScope ["deeds", "rows", "denied"] ["deeds", "rows", "denied"] (defScope s_home) := ⟨rfl, rfl, rfl, by decide +kernel, rfl, by decide +kernel, by decide +kernel⟩
abbrev s_leads_home : Stmt := top 66
abbrev N_leads_home : List Str := ["world", "row", "place", "letter"]
theorem sc_leads_home : FnScope ["world", "row", "place", "letter"] ["world", "row"] (defScope s_leads_home) := ⟨rfl, rfl, rfl, by decide +kernel, rfl, by decide +kernel, by decide +kernel⟩
abbrev s_is_home : Stmt := top 67
abbrev N_is_home : List Str := ["deeds", "rows", "denied", "thing", "row"]
theorem sc_is_home : FnScope ["deeds", "rows", "denied", "thing", "row"] ["deeds", "rows", "denied", "thing"] (defScope s_is_home) := ⟨rfl, rfl, rfl, by decide +kernel, rfl, by decide +kernel, by decide +kernel⟩
abbrev s__law_pool : Stmt := top 69
abbrev N__law_pool : List Str := ["_law_script", "_law_seed", "_law_great", "_law_cell"]
theorem sc__law_pool : FnScope ["_law_script", "_law_seed", "_law_great", "_law_cell"] ["_law_script"] (defScope s__law_pool) := ⟨rfl, rfl, rfl, by decide +kernel, rfl, by decide +kernel, by decide +kernel⟩
abbrev s__law_draw : Stmt := top 70
abbrev N__law_draw : List Str := ["_law_pool_here", "_law_number", "_law_found", "_law_mixed"]
theorem sc__law_draw : FnScope ["_law_pool_here", "_law_number", "_law_found", "_law_mixed"] ["_law_pool_here", "_law_number"] (defScope s__law_draw) := ⟨rfl, rfl, rfl, by decide +kernel, rfl, by decide +kernel, by decide +kernel⟩
abbrev s__law_deeds : Stmt := top 71
abbrev N__law_deeds : List Str := ["_law_pool_here", "_law_letters_here", "_law_found", "_law_k", "_law_letter"]
theorem sc__law_deeds : FnScope ["_law_pool_here", "_law_letters_here", "_law_found", "_law_k", "_law_letter"] ["_law_pool_here"] (defScope s__law_deeds) := ⟨rfl, rfl, rfl, by decide +kernel, rfl, by decide +kernel, by decide +kernel⟩
abbrev s__law_letters : Stmt := top 72
abbrev N__law_letters : List Str := ["_law_deeds_here", "_law_found", "_law_deed"]
theorem sc__law_letters : FnScope ["_law_deeds_here", "_law_found", "_law_deed"] ["_law_deeds_here"] (defScope s__law_letters) := ⟨rfl, rfl, rfl, by decide +kernel, rfl, by decide +kernel, by decide +kernel⟩
abbrev s__law_flip : Stmt := top 73
abbrev N__law_flip : List Str := ["_law_letter"]
theorem sc__law_flip : FnScope ["_law_letter"] ["_law_letter"] (defScope s__law_flip) := ⟨rfl, rfl, rfl, by decide +kernel, rfl, by decide +kernel, by decide +kernel⟩
abbrev s__law_net : Stmt := top 74
abbrev N__law_net : List Str := ["_law_row", "_law_kept", "_law_letter"]
theorem sc__law_net : FnScope ["_law_row", "_law_kept", "_law_letter"] ["_law_row"] (defScope s__law_net) := ⟨rfl, rfl, rfl, by decide +kernel, rfl, by decide +kernel, by decide +kernel⟩
abbrev s__law_undone : Stmt := top 75
abbrev N__law_undone : List Str := ["_law_row", "_law_letter"]
theorem sc__law_undone : FnScope ["_law_row", "_law_letter"] ["_law_row"] (defScope s__law_undone) := ⟨rfl, rfl, rfl, by decide +kernel, rfl, by decide +kernel, by decide +kernel⟩
abbrev s__law_word : Stmt := top 76
abbrev N__law_word : List Str := ["_law_pool_here", "_law_deeds_here", "_law_most", "_law_letters_here", "_law_k"]
theorem sc__law_word : FnScope ["_law_pool_here", "_law_deeds_here", "_law_most", "_law_letters_here", "_law_k"] ["_law_pool_here", "_law_deeds_here", "_law_most"] (defScope s__law_word) := ⟨rfl, rfl, rfl, by decide +kernel, rfl, by decide +kernel, by decide +kernel⟩
abbrev s__law_rows : Stmt := top 77
abbrev N__law_rows : List Str := ["_law_pool_here", "_law_deeds_here", "_law_most", "_law_longest", "_law_rows_here", "_law_k", "_law_kind", "_law_row"]
theorem sc__law_rows : FnScope ["_law_pool_here", "_law_deeds_here", "_law_most", "_law_longest", "_law_rows_here", "_law_k", "_law_kind", "_law_row"] ["_law_pool_here", "_law_deeds_here", "_law_most", "_law_longest"] (defScope s__law_rows) := ⟨rfl, rfl, rfl, by decide +kernel, rfl, by decide +kernel, by decide +kernel⟩
abbrev s__law_listed : Stmt := top 78
abbrev N__law_listed : List Str := ["_law_pool_here", "_law_things"]
theorem sc__law_listed : FnScope ["_law_pool_here", "_law_things"] ["_law_pool_here", "_law_things"] (defScope s__law_listed) := ⟨rfl, rfl, rfl, by decide +kernel, rfl, by decide +kernel, by decide +kernel⟩
abbrev s__law_laid : Stmt := top 79
abbrev N__law_laid : List Str := ["_law_rows_here", "_law_ways", "_law_fresh", "_law_row", "_law_shape", "_law_place", "_law_k", "_law_goal"]
theorem sc__law_laid : FnScope ["_law_rows_here", "_law_ways", "_law_fresh", "_law_row", "_law_shape", "_law_place", "_law_k", "_law_goal"] ["_law_rows_here"] (defScope s__law_laid) := ⟨rfl, rfl, rfl, by decide +kernel, rfl, by decide +kernel, by decide +kernel⟩
abbrev s__law_clash : Stmt := top 80
abbrev N__law_clash : List Str := ["_law_pool_here", "_law_ways", "_law_shift", "_law_ahead", "_law_into", "_law_place", "_law_deed", "_law_goal"]
theorem sc__law_clash : FnScope ["_law_pool_here", "_law_ways", "_law_shift", "_law_ahead", "_law_into", "_law_place", "_law_deed", "_law_goal"] ["_law_pool_here", "_law_ways"] (defScope s__law_clash) := ⟨rfl, rfl, rfl, by decide +kernel, rfl, by decide +kernel, by decide +kernel⟩
abbrev s__law_folded : Stmt := top 81
abbrev N__law_folded : List Str := ["_law_pool_here", "_law_ways", "_law_turn", "_law_pair", "_law_low", "_law_high", "_law_names", "_law_p", "_law_deed", "_law_q"]
theorem sc__law_folded : FnScope ["_law_pool_here", "_law_ways", "_law_turn", "_law_pair", "_law_low", "_law_high", "_law_names", "_law_p", "_law_deed", "_law_q"] ["_law_pool_here", "_law_ways"] (defScope s__law_folded) := ⟨rfl, rfl, rfl, by decide +kernel, rfl, by decide +kernel, by decide +kernel⟩
abbrev s__law_trimmed : Stmt := top 82
abbrev N__law_trimmed : List Str := ["_law_ways", "_law_turn", "_law_ends", "_law_place", "_law_deed", "_law_goal", "_law_kept", "_law_path"]
theorem sc__law_trimmed : FnScope ["_law_ways", "_law_turn", "_law_ends", "_law_place", "_law_deed", "_law_goal", "_law_kept", "_law_path"] ["_law_ways"] (defScope s__law_trimmed) := ⟨rfl, rfl, rfl, by decide +kernel, rfl, by decide +kernel, by decide +kernel⟩
abbrev s__law_steps : Stmt := top 83
abbrev N__law_steps : List Str := ["_law_ways", "_law_steps_here", "_law_place", "_law_deed", "_law_goal"]
theorem sc__law_steps : FnScope ["_law_ways", "_law_steps_here", "_law_place", "_law_deed", "_law_goal"] ["_law_ways"] (defScope s__law_steps) := ⟨rfl, rfl, rfl, by decide +kernel, rfl, by decide +kernel, by decide +kernel⟩
abbrev s__law_numbered : Stmt := top 84
abbrev N__law_numbered : List Str := ["_law_deeds_here", "_law_ways", "_law_steps_here", "_law_numbers", "_law_queue", "_law_here", "_law_letter", "_law_goal", "_law_found", "_law_place", "_law_deed"]
theorem sc__law_numbered : FnScope ["_law_deeds_here", "_law_ways", "_law_steps_here", "_law_numbers", "_law_queue", "_law_here", "_law_letter", "_law_goal", "_law_found", "_law_place", "_law_deed"] ["_law_deeds_here", "_law_ways"] (defScope s__law_numbered) := ⟨rfl, rfl, rfl, by decide +kernel, rfl, by decide +kernel, by decide +kernel⟩
abbrev s__law_web : Stmt := top 85
abbrev N__law_web : List Str := ["_law_pool_here", "_law_deeds_here", "_law_rows_here"]
theorem sc__law_web : FnScope ["_law_pool_here", "_law_deeds_here", "_law_rows_here"] ["_law_pool_here", "_law_deeds_here", "_law_rows_here"] (defScope s__law_web) := ⟨rfl, rfl, rfl, by decide +kernel, rfl, by decide +kernel, by decide +kernel⟩
abbrev s__law_lead : Stmt := top 86
abbrev N__law_lead : List Str := ["_law_steps_here", "_law_place", "_law_row", "_law_letter"]
theorem sc__law_lead : FnScope ["_law_steps_here", "_law_place", "_law_row", "_law_letter"] ["_law_steps_here", "_law_place", "_law_row"] (defScope s__law_lead) := ⟨rfl, rfl, rfl, by decide +kernel, rfl, by decide +kernel, by decide +kernel⟩
abbrev s__law_product : Stmt := top 87
abbrev N__law_product : List Str := ["_law_pool_here", "_law_rows_here", "_law_most", "_law_row", "_law_k", "_law_part", "_law_letter"]
theorem sc__law_product : FnScope ["_law_pool_here", "_law_rows_here", "_law_most", "_law_row", "_law_k", "_law_part", "_law_letter"] ["_law_pool_here", "_law_rows_here", "_law_most"] (defScope s__law_product) := ⟨rfl, rfl, rfl, by decide +kernel, rfl, by decide +kernel, by decide +kernel⟩
abbrev s__law_led : Stmt := top 88
abbrev N__law_led : List Str := ["_law_moves", "_law_standing", "_law_row", "_law_letter", "_law_move"]
theorem sc__law_led : FnScope ["_law_moves", "_law_standing", "_law_row", "_law_letter", "_law_move"] ["_law_moves", "_law_standing", "_law_row"] (defScope s__law_led) := ⟨rfl, rfl, rfl, by decide +kernel, rfl, by decide +kernel, by decide +kernel⟩
abbrev s__law_is_home : Stmt := top 89
abbrev N__law_is_home : List Str := ["_law_deeds_here", "_law_rows_here", "_law_denied_here", "_law_thing", "_law_moves", "_law_deed", "_law_row"]
theorem sc__law_is_home : FnScope ["_law_deeds_here", "_law_rows_here", "_law_denied_here", "_law_thing", "_law_moves", "_law_deed", "_law_row"] ["_law_deeds_here", "_law_rows_here", "_law_denied_here", "_law_thing"] (defScope s__law_is_home) := ⟨rfl, rfl, rfl, by decide +kernel, rfl, by decide +kernel, by decide +kernel⟩
abbrev s__law_denied : Stmt := top 90
abbrev N__law_denied : List Str := ["_law_pool_here", "_law_deeds_here", "_law_rows_here", "_law_found", "_law_k", "_law_kind", "_law_row"]
theorem sc__law_denied : FnScope ["_law_pool_here", "_law_deeds_here", "_law_rows_here", "_law_found", "_law_k", "_law_kind", "_law_row"] ["_law_pool_here", "_law_deeds_here", "_law_rows_here"] (defScope s__law_denied) := ⟨rfl, rfl, rfl, by decide +kernel, rfl, by decide +kernel, by decide +kernel⟩
abbrev s__law_fits : Stmt := top 91
abbrev N__law_fits : List Str := ["_law_deeds_here", "_law_rows_here", "_law_denied_here", "_law_made", "_law_told", "_law_short", "_law_row"]
theorem sc__law_fits : FnScope ["_law_deeds_here", "_law_rows_here", "_law_denied_here", "_law_made", "_law_told", "_law_short", "_law_row"] ["_law_deeds_here", "_law_rows_here", "_law_denied_here", "_law_made", "_law_told"] (defScope s__law_fits) := ⟨rfl, rfl, rfl, by decide +kernel, rfl, by decide +kernel, by decide +kernel⟩
abbrev s_law : Stmt := top 92
abbrev N_law : List Str := ["_law_script", "_law_pool_here", "_law_deeds_here", "_law_rows_here", "_law_denied_here", "_law_steps_here", "_law_made", "_law_told", "_law_row"]
theorem sc_law : FnScope ["_law_script", "_law_pool_here", "_law_deeds_here", "_law_rows_here", "_law_denied_here", "_law_steps_here", "_law_made", "_law_told", "_law_row"] ["_law_script"] (defScope s_law) := ⟨rfl, rfl, rfl, by decide +kernel, rfl, by decide +kernel, by decide +kernel⟩
/-- a def as the top has left it -/
structure Df (K : PySem.W.Frag) (mg : Str → Option Value) (x : Str) (st : Stmt) (ps : List Str) where
  f : Addr
  d : FuncData
  F : Fun K x x st f d
  b : Binds K d ps []
  g : mg x = some (.ref f)
/-- a method -/
structure Mf (K : PySem.W.Frag) (C : Addr) (x qual : Str) (st : Stmt) (ps : List Str) where
  f : Addr
  d : FuncData
  F : Fun K x qual st f d
  b : Binds K d ps []
  m : Meth K C x f
/-- a property -/
structure Pf (K : PySem.W.Frag) (C : Addr) (x qual : Str) (st : Stmt) (ps : List Str) where
  f : Addr
  d : FuncData
  p : Addr
  F : Fun K x qual st f d
  b : Binds K d ps []
  P : PropOf K C x p f
/-- instances of C are such of D -/
structure InsSub (K : PySem.W.Frag) (C D : Addr) : Prop where
  cl : Cls K C
  ha : PySem.W.findIn K (.ref C) "__class__" = some (some (.builtin "object.__class__"))
  hn : PySem.W.specialIn K (.builtin "object.__class__") "__get__" = some (some (.builtin "getset_descriptor.__get__"))
  htk : PySem.W.takesIn K (.builtin "object.__class__") = some true
  hm : PySem.W.mroIn K C (.type "object") = some true
  me : PySem.W.kitOne K (.ref C) (.ref D) = some true
structure Kf (K : PySem.W.Frag) (mg : Str → Option Value) (x : Str) (C fi : Addr) : Prop where
  cl : Cls K C
  made : Mk K C fi
  g : mg x = some (.ref C)
structure Top (K : PySem.W.Frag) (mg : Str → Option Value) where
  C_Places : Addr
  C_World : Addr
  C_RawWorld : Addr
  C_Web : Addr
  C_Grown : Addr
  d_is_integer : Df K mg "is_integer" s_is_integer ["thing"]
  d_is_listed : Df K mg "is_listed" s_is_listed ["thing"]
  d_is_string_of : Df K mg "is_string_of" s_is_string_of ["thing", "signs"]
  d_is_word : Df K mg "is_word" s_is_word ["thing"]
  d_is_deeds : Df K mg "is_deeds" s_is_deeds ["thing"]
  d_undoing_of : Df K mg "undoing_of" s_undoing_of ["letter"]
  d_letters_over : Df K mg "letters_over" s_letters_over ["deeds"]
  d_is_row_over : Df K mg "is_row_over" s_is_row_over ["deeds", "thing"]
  d_are_rows_over : Df K mg "are_rows_over" s_are_rows_over ["deeds", "thing", "most", "longest"]
  d_check_row : Df K mg "check_row" s_check_row ["deeds", "thing"]
  d_check_deeds : Df K mg "check_deeds" s_check_deeds ["thing"]
  d_check_rows : Df K mg "check_rows" s_check_rows ["deeds", "thing", "most", "longest"]
  m_Places___init__ : Mf K C_Places "__init__" "Places.__init__" s_Places___init__ ["self", "many"]
  m_Places_head : Mf K C_Places "head" "Places.head" s_Places_head ["self", "place"]
  m_Places_join : Mf K C_Places "join" "Places.join" s_Places_join ["self", "one", "other"]
  k_Places : Kf K mg "Places" C_Places m_Places___init__.f
  n_Places_heads : NoAttr K C_Places "heads"
  d_forward_ways : Df K mg "forward_ways" s_forward_ways ["arrows"]
  d_join_once : Df K mg "join_once" s_join_once ["places", "ways"]
  d_joined_places : Df K mg "joined_places" s_joined_places ["many", "arrows"]
  d_head_ways : Df K mg "head_ways" s_head_ways ["places", "ways"]
  d_hanging : Df K mg "hanging" s_hanging ["ways", "base"]
  d_is_tail : Df K mg "is_tail" s_is_tail ["ends", "base", "way"]
  d_without_tails : Df K mg "without_tails" s_without_tails ["ways", "base"]
  d_steps_of : Df K mg "steps_of" s_steps_of ["ways"]
  d_numbered : Df K mg "numbered" s_numbered ["deeds", "ways", "base"]
  d_trimmed : Df K mg "trimmed" s_trimmed ["deeds", "ways", "base"]
  d_folded_ways : Df K mg "folded_ways" s_folded_ways ["deeds", "many", "arrows", "base"]
  d_chain : Df K mg "chain" s_chain ["row", "first", "last", "fresh"]
  d_ring_end : Df K mg "ring_end" s_ring_end ["behind", "place"]
  d_filled : Df K mg "filled" s_filled ["deeds", "size", "ways"]
  d_net_letters : Df K mg "net_letters" s_net_letters ["row"]
  d_turned_back : Df K mg "turned_back" s_turned_back ["move"]
  d_is_standing : Df K mg "is_standing" s_is_standing ["size", "thing"]
  d_is_move : Df K mg "is_move" s_is_move ["size", "thing"]
  d_are_moves : Df K mg "are_moves" s_are_moves ["deeds", "thing"]
  d_all_moves : Df K mg "all_moves" s_all_moves ["deeds", "moves"]
  m_World___init__ : Mf K C_World "__init__" "World.__init__" s_World___init__ ["self", "deeds", "moves"]
  m_World_keep : Mf K C_World "keep" "World.keep" s_World_keep ["self", "deeds", "moves"]
  m_World___eq__ : Mf K C_World "__eq__" "World.__eq__" s_World___eq__ ["self", "thing"]
  k_World : Kf K mg "World" C_World m_World___init__.f
  p_World_moves : Pf K C_World "moves" "World.moves" s_World_moves ["self"]
  i_World : C8.InsC K C_World
  n_World_deeds : NoAttr K C_World "deeds"
  n_World_size : NoAttr K C_World "size"
  n_World_kept_moves : NoAttr K C_World "kept_moves"
  n_World_kept_backs : NoAttr K C_World "kept_backs"
  m_RawWorld___init__ : Mf K C_RawWorld "__init__" "RawWorld.__init__" s_RawWorld___init__ ["self", "deeds", "moves"]
  k_RawWorld : Kf K mg "RawWorld" C_RawWorld m_RawWorld___init__.f
  o_RawWorld_keep : Meth K C_RawWorld "keep" m_World_keep.f
  o_RawWorld___eq__ : Meth K C_RawWorld "__eq__" m_World___eq__.f
  q_RawWorld_moves : PropOf K C_RawWorld "moves" p_World_moves.p p_World_moves.f
  j_RawWorld_World : InsSub K C_RawWorld C_World
  n_RawWorld_deeds : NoAttr K C_RawWorld "deeds"
  n_RawWorld_size : NoAttr K C_RawWorld "size"
  n_RawWorld_kept_moves : NoAttr K C_RawWorld "kept_moves"
  n_RawWorld_kept_backs : NoAttr K C_RawWorld "kept_backs"
  d_check_standing : Df K mg "check_standing" s_check_standing ["world", "standing"]
  d_led : Df K mg "led" s_led ["world", "standing", "row"]
  m_Web___init__ : Mf K C_Web "__init__" "Web.__init__" s_Web___init__ ["self", "deeds", "size", "ways"]
  m_Web___eq__ : Mf K C_Web "__eq__" "Web.__eq__" s_Web___eq__ ["self", "other"]
  k_Web : Kf K mg "Web" C_Web m_Web___init__.f
  i_Web : C8.InsC K C_Web
  n_Web_deeds : NoAttr K C_Web "deeds"
  n_Web_size : NoAttr K C_Web "size"
  n_Web_ways : NoAttr K C_Web "ways"
  n_Web_kept_deeds : NoAttr K C_Web "kept_deeds"
  n_Web_kept_size : NoAttr K C_Web "kept_size"
  n_Web_kept_ways : NoAttr K C_Web "kept_ways"
  n_Web_kept_steps : NoAttr K C_Web "kept_steps"
  d_folded : Df K mg "folded" s_folded ["deeds", "many", "arrows", "base"]
  d_check_makers : Df K mg "check_makers" s_check_makers ["deeds", "rows"]
  d_made_web : Df K mg "made_web" s_made_web ["deeds", "rows"]
  m_Grown___init__ : Mf K C_Grown "__init__" "Grown.__init__" s_Grown___init__ ["self", "web"]
  m_Grown_go : Mf K C_Grown "go" "Grown.go" s_Grown_go ["self", "place", "letter"]
  m_Grown_lead : Mf K C_Grown "lead" "Grown.lead" s_Grown_lead ["self", "row"]
  k_Grown : Kf K mg "Grown" C_Grown m_Grown___init__.f
  n_Grown_size : NoAttr K C_Grown "size"
  n_Grown_ways : NoAttr K C_Grown "ways"
  n_Grown_goals : NoAttr K C_Grown "goals"
  d_check_home : Df K mg "check_home" s_check_home ["deeds", "rows", "denied"]
  d_made_home : Df K mg "made_home" s_made_home ["deeds", "rows", "denied"]
  d_home : Df K mg "home" s_home ["deeds", "rows", "denied"]
  d_leads_home : Df K mg "leads_home" s_leads_home ["world", "row"]
  d_is_home : Df K mg "is_home" s_is_home ["deeds", "rows", "denied", "thing"]
  d__law_pool : Df K mg "_law_pool" s__law_pool ["_law_script"]
  d__law_draw : Df K mg "_law_draw" s__law_draw ["_law_pool_here", "_law_number"]
  d__law_deeds : Df K mg "_law_deeds" s__law_deeds ["_law_pool_here"]
  d__law_letters : Df K mg "_law_letters" s__law_letters ["_law_deeds_here"]
  d__law_flip : Df K mg "_law_flip" s__law_flip ["_law_letter"]
  d__law_net : Df K mg "_law_net" s__law_net ["_law_row"]
  d__law_undone : Df K mg "_law_undone" s__law_undone ["_law_row"]
  d__law_word : Df K mg "_law_word" s__law_word ["_law_pool_here", "_law_deeds_here", "_law_most"]
  d__law_rows : Df K mg "_law_rows" s__law_rows ["_law_pool_here", "_law_deeds_here", "_law_most", "_law_longest"]
  d__law_listed : Df K mg "_law_listed" s__law_listed ["_law_pool_here", "_law_things"]
  d__law_laid : Df K mg "_law_laid" s__law_laid ["_law_rows_here"]
  d__law_clash : Df K mg "_law_clash" s__law_clash ["_law_pool_here", "_law_ways"]
  d__law_folded : Df K mg "_law_folded" s__law_folded ["_law_pool_here", "_law_ways"]
  d__law_trimmed : Df K mg "_law_trimmed" s__law_trimmed ["_law_ways"]
  d__law_steps : Df K mg "_law_steps" s__law_steps ["_law_ways"]
  d__law_numbered : Df K mg "_law_numbered" s__law_numbered ["_law_deeds_here", "_law_ways"]
  d__law_web : Df K mg "_law_web" s__law_web ["_law_pool_here", "_law_deeds_here", "_law_rows_here"]
  d__law_lead : Df K mg "_law_lead" s__law_lead ["_law_steps_here", "_law_place", "_law_row"]
  d__law_product : Df K mg "_law_product" s__law_product ["_law_pool_here", "_law_rows_here", "_law_most"]
  d__law_led : Df K mg "_law_led" s__law_led ["_law_moves", "_law_standing", "_law_row"]
  d__law_is_home : Df K mg "_law_is_home" s__law_is_home ["_law_deeds_here", "_law_rows_here", "_law_denied_here", "_law_thing"]
  d__law_denied : Df K mg "_law_denied" s__law_denied ["_law_pool_here", "_law_deeds_here", "_law_rows_here"]
  d__law_fits : Df K mg "_law_fits" s__law_fits ["_law_deeds_here", "_law_rows_here", "_law_denied_here", "_law_made", "_law_told"]
  d_law : Df K mg "law" s_law ["_law_script"]
  z_isinstance : mg "isinstance" = none
  z_range : mg "range" = none
  z_tuple : mg "tuple" = none
  z_all : mg "all" = none
  z_list : mg "list" = none
  z_enumerate : mg "enumerate" = none
  z_sorted : mg "sorted" = none
  z_int : mg "int" = none
  z_str : mg "str" = none
  z_len : mg "len" = none
  z_min : mg "min" = none
  z_set : mg "set" = none
  z_max : mg "max" = none
  z_any : mg "any" = none
  z_bool : mg "bool" = none
  z_dict : mg "dict" = none
  t_SMALL : Tok
  h_SMALL : mg "SMALL" = some (.str "abcdefghijklmnopqrstuvwxyz" t_SMALL)
  t_MOST_STANDINGS : Tok
  h_MOST_STANDINGS : mg "MOST_STANDINGS" = some (.int 24 t_MOST_STANDINGS)
  t_MOST_ROWS : Tok
  h_MOST_ROWS : mg "MOST_ROWS" = some (.int 6 t_MOST_ROWS)
  t_LONGEST : Tok
  h_LONGEST : mg "LONGEST" = some (.int 12 t_LONGEST)
  t_MOST_DENIED : Tok
  h_MOST_DENIED : mg "MOST_DENIED" = some (.int 6 t_MOST_DENIED)
  t_LONGEST_DENIED : Tok
  h_LONGEST_DENIED : mg "LONGEST_DENIED" = some (.int 60 t_LONGEST_DENIED)
end Rb
/-! checks.py -/
namespace Rb
set_option linter.all false
set_option maxRecDepth 100000
set_option maxHeartbeats 4000000
open PySem PySem.Spec PyProof.Rows L2
section
variable {P : Program} {w : World} {K : PySem.W.Frag} {mg : Str → Option Value} {base : Heap}
def spUndo : Sp := fun vs H Q _ => ∃ r : Row, vs = [.str (rS r)] ∧ r.length ≤ 100000 ∧ Q (.str (rS (r.map Lt.inv))) H
theorem ok_undoing_of (T : Top K mg) : FnOk P w K mg base CX0 1 T.d_undoing_of.f T.d_undoing_of.d ["letter"] spUndo := by
  refine T.d_undoing_of.F.ok sc_undoing_of (fun vs H Q E h => ?_) (fun cdv A outer s H vs Q E hr h => ?_)
  · obtain ⟨r, rfl, _⟩ := h
    rfl
  · obtain ⟨r, rfl, hl, q⟩ := h
    refine ⟨_,
      (pss_one (ps_ret (pe_swap (pv 0))))
      , ?_⟩
    refine ⟨_, rfl, ⟨_, rfl⟩, _, rfl, rfl, by rw [rS_len]; omega, ?_⟩
    rw [swap_row]
    exact q
def spStrOf : Sp := fun vs H Q _ => ∃ r s : Row, vs = [.str (rS r), .str (rS s)] ∧ Q (.bl (decide (∀ x ∈ r, x ∈ s))) H
theorem ok_is_string_of (T : Top K mg) : FnOk P w K mg base CX0 1 T.d_is_string_of.f T.d_is_string_of.d ["thing", "signs"] spStrOf := by
  refine T.d_is_string_of.F.ok sc_is_string_of (fun vs H Q E h => ?_) (fun cdv A outer s H vs Q E hr h => ?_)
  · obtain ⟨r, s, rfl, _⟩ := h
    rfl
  · obtain ⟨r, z, rfl, q⟩ := h
    refine ⟨_,
      (pss_cons (ps_if (pt_not (pt_val (pe_callB call_isi (by rfl) T.z_isinstance (by decide +kernel) (pa_cons (pv 0) (pa_cons (pe_bltn (v := .ty "str") (u := .type "str") (by rfl) T.z_str (by decide +kernel) rfl) pa_nil)))))
      (pss_one (ps_ret pe_bl))
      pss_nil)
      (pss_cons (ps_for PassesOwn.never rfl (pi_str (pv 0)) (pg_name (i := 2) sc_is_string_of.nd rfl (Or.inl rfl))
      (pss_one (ps_if (pt_cmpR op_notIn_sign (pv 2) (pv 1) rfl)
      (pss_one (ps_ret pe_bl))
      pss_nil)))
      (pss_one (ps_ret pe_bl))))
      , ?_⟩
    refine ⟨_, rfl, .str (rS r), .ty "str", .type "str", .type "str", true, rfl, .ty _, .base (.str _), kit_ty (by decide +kernel), true, rfl, ?_⟩
    refine iteF ?_
    refine ⟨_, rfl, _, rfl, for_row (r := r) (fun pre σ H' => ∃ v, σ = [some (.str (rS r)), some (.str (rS z)), v] ∧ H' = H ∧ ∀ x ∈ pre, x ∈ z) ⟨none, rfl, rfl, by simp⟩ ?_ ?_⟩
    · rintro pre x post σ H' e ⟨v, rfl, rfl, hp⟩
      refine ⟨_, rfl, _, rfl, x.c, rS z, rfl, rfl, _, rfl, ?_⟩
      refine ite2 (fun h => ?_) (fun h => ?_)
      · have hx : ¬ x ∈ z := by
          intro hx
          rw [decide_eq_true (mem_rS.mpr hx)] at h
          exact absurd h (by decide)
        have e2 : decide (∀ x ∈ r, x ∈ z) = false := decide_eq_false fun h2 => hx (h2 x (by rw [e]; simp))
        rw [e2] at q
        exact q
      · have hx : x ∈ z := by
          by_cases hx : x ∈ z
          · exact hx
          · rw [decide_eq_false (fun h => hx (mem_rS.mp h))] at h
            exact absurd rfl h
        refine ⟨_, rfl, rfl, ?_⟩
        intro y hy
        rcases List.mem_append.mp hy with hy | hy
        · exact hp y hy
        · rw [List.mem_singleton.mp hy]; exact hx
    · rintro σ H' ⟨v, rfl, rfl, hp⟩
      rw [decide_eq_true hp] at q
      exact q
def smalls : Row := (List.finRange 26).map fun d => ⟨d, false⟩
theorem smalls_text : ("abcdefghijklmnopqrstuvwxyz" : Str) = rS smalls := by decide +kernel
theorem mem_smalls {x : Lt} : x ∈ smalls ↔ x.u = false := by
  unfold smalls
  rw [List.mem_map]
  constructor
  · rintro ⟨d, _, rfl⟩; rfl
  · intro h
    exact ⟨x.d, List.mem_finRange _, by cases x; simp only at h; rw [h]⟩
def spIsWord : Sp := fun vs H Q _ => ∃ r : Row, vs = [.str (rS r)] ∧ r.length ≤ 100000 ∧ Q (.bl (decide (∀ x ∈ r, x.u = false) && decide (r ≠ []))) H
theorem ok_is_word (T : Top K mg) : FnOk P w K mg base CX0 2 T.d_is_word.f T.d_is_word.d ["thing"] spIsWord := by
  refine T.d_is_word.F.ok sc_is_word (fun vs H Q E h => ?_) (fun cdv A outer s H vs Q E hr h => ?_)
  · obtain ⟨r, rfl, _⟩ := h
    rfl
  · obtain ⟨r, rfl, hl, q⟩ := h
    refine ⟨_,
      (pss_one (ps_ret (pe_and (pe_call (ok_is_string_of T) (hr.mono (by decide)) (by rfl) T.d_is_string_of.g T.d_is_string_of.F.kp T.d_is_string_of.b .nil pass0 (pa_cons (pv 0) (pa_cons (pe_glob (v := .str "abcdefghijklmnopqrstuvwxyz") rfl T.h_SMALL ⟨_, rfl⟩) pa_nil))) (pe_one (pe_cmpR op_gt (pe_callB call_len_str (by rfl) T.z_len (by decide +kernel) (pa_cons (pv 0) pa_nil)) pe_int (nomark _))))))
      , ?_⟩
    refine ⟨_, rfl, r, smalls, by rw [smalls_text]; rfl, _, rfl, ?_⟩
    have e : decide (∀ x ∈ r, x ∈ smalls) = decide (∀ x ∈ r, x.u = false) := by
      simp only [mem_smalls]
    rw [e]
    have hsz : (rS r).length ≤ sizeLine := by rw [rS_len]; exact Nat.le_trans hl (by decide)
    refine ite2 (fun h => ?_) (fun h => ?_)
    · rw [h, Bool.true_and] at q
      refine ⟨_, rfl, _, rfl, hsz, _, _, rfl, rfl, ?_⟩
      have e2 : decide ((0 : Int) < ((rS r).length : Int)) = decide (r ≠ []) := by
        rw [rS_len]
        cases r with
        | nil => rfl
        | cons x r =>
          rw [decide_eq_true (by simp only [List.length_cons]; omega), decide_eq_true (by simp)]
      show Q (.bl (decide ((0 : Int) < ((rS r).length : Int)))) H
      rw [e2]
      exact q
    · rw [Bool.eq_false_iff.mpr h, Bool.false_and] at q
      exact q
/-- deeds, ascending -/
def Asc (ds : List (Fin 26)) : Prop := ds.Pairwise (· < ·) ∧ 1 ≤ ds.length ∧ ds.length ≤ 4
theorem dS_get {ds : List (Fin 26)} {i : Nat} {d : Fin 26} (h : ds[i]? = some d) : atI (dS ds).cps.toList (i : Int) = some (97 + d.val) := by
  refine atI_nat ?_
  unfold dS
  rw [rS_list]
  simp [h, Lt.c]
theorem dS_len (ds : List (Fin 26)) : (dS ds).length = ds.length := by
  unfold dS
  rw [rS_len, List.length_map]
def spIsDeeds : Sp := fun vs H Q _ => ∃ ds, vs = [.str (dS ds)] ∧ Asc ds ∧ Q (.bl true) H
theorem ok_is_deeds (T : Top K mg) : FnOk P w K mg base CX0 3 T.d_is_deeds.f T.d_is_deeds.d ["thing"] spIsDeeds := by
  refine T.d_is_deeds.F.ok sc_is_deeds (fun vs H Q E h => ?_) (fun cdv A outer s H vs Q E hr h => ?_)
  · obtain ⟨r, rfl, _⟩ := h
    rfl
  · obtain ⟨ds, rfl, ⟨h1, h2, h3⟩, q⟩ := h
    refine ⟨_,
      (pss_cons (ps_if (PW.pt (pw_or (pt_not (pt_val (pe_call (ok_is_word T) (hr.mono (by decide)) (by rfl) T.d_is_word.g T.d_is_word.F.kp T.d_is_word.b .nil pass0 (pa_cons (pv 0) pa_nil)))) (pw_or1 (pt_cmpR op_gt (pe_callB call_len_str (by rfl) T.z_len (by decide +kernel) (pa_cons (pv 0) pa_nil)) pe_int (nomark _)))))
      (pss_one (ps_ret pe_bl))
      pss_nil)
      (pss_cons (ps_for PassesOwn.never rfl (pi_range2 (by rfl) T.z_range (pa_cons pe_int (pa_cons (pe_callB call_len_str (by rfl) T.z_len (by decide +kernel) (pa_cons (pv 0) pa_nil)) pa_nil))) (pg_name (i := 1) sc_is_deeds.nd rfl (Or.inl rfl))
      (pss_one (ps_if (pt_cmpR op_ge_str (pe_ix ix_str (pv 0) (pe_op op_sub (pv 1) pe_int) (fun _ _ => rfl)) (pe_ix ix_str (pv 0) (pv 1) (fun _ _ => rfl)) (nomark _))
      (pss_one (ps_ret pe_bl))
      pss_nil)))
      (pss_one (ps_ret pe_bl))))
      , ?_⟩
    have hsz : (dS ds).length ≤ sizeLine := by rw [dS_len]; exact Nat.le_trans h3 (by decide)
    refine ⟨_, rfl, ds.map fun d => ⟨d, false⟩, rfl, by rw [List.length_map]; omega, _, rfl, ?_⟩
    have e1 : decide (∀ x ∈ ds.map (fun d => (⟨d, false⟩ : Lt)), x.u = false) = true := by
      refine decide_eq_true ?_
      intro x hx
      obtain ⟨d, _, rfl⟩ := List.mem_map.mp hx
      rfl
    have e2 : decide (ds.map (fun d => (⟨d, false⟩ : Lt)) ≠ []) = true := by
      refine decide_eq_true ?_
      intro h
      have : ds = [] := by simpa using h
      rw [this] at h2
      simp at h2
    rw [e1, e2]
    refine iteF ?_
    refine ⟨_, rfl, _, rfl, hsz, _, _, rfl, rfl, _, rfl, ?_⟩
    have e3 : decide (((dS ds).length : Int) > 4) = false := by
      rw [dS_len]
      exact decide_eq_false (by omega)
    rw [e3]
    refine iteF ?_
    refine ⟨_, rfl, _, rfl, hsz, 1, ((dS ds).length : Int), rfl, by rw [dS_len]; omega, ?_⟩
    refine for_range (fun i σ H' => ∃ v, σ = [some (.str (dS ds)), v] ∧ H' = H) ⟨none, rfl, rfl⟩ ?_ ?_
    · rintro i σ H' hi ⟨v, rfl, rfl⟩
      rw [dS_len] at hi
      have hi1 : i < ds.length := by omega
      have hi2 : i + 1 < ds.length := by omega
      have g1 := dS_get (List.getElem?_eq_getElem hi1)
      have g2 := dS_get (List.getElem?_eq_getElem hi2)
      have hlt : ds[i] < ds[i + 1] := List.pairwise_iff_getElem.mp h1 i (i + 1) hi1 hi2 (by omega)
      have ei : (1 + (i : Int)) - 1 = (i : Int) := by omega
      have ei2 : 1 + (i : Int) = ((i + 1 : Nat) : Int) := by omega
      refine ⟨_, rfl, _, rfl, _, _, rfl, rfl, _, _, _, rfl, rfl, hsz, by rw [ei]; exact g1, _, rfl, _, rfl, _, _, _, rfl, rfl, hsz, by rw [ei2]; exact g2, _, _, rfl, rfl, _, rfl, ?_⟩
      refine ite2 (fun h => ?_) (fun h => ?_)
      · exfalso
        have hl : ([97 + ds[i].val] : List Nat) < [97 + ds[i + 1].val] := by
          rw [List.cons_lt_cons_iff]
          left
          have : ds[i].val < ds[i + 1].val := hlt
          omega
        rw [decide_eq_true (show (⟨#[97 + ds[i].val]⟩ : Str).cps.toList < (⟨#[97 + ds[i + 1].val]⟩ : Str).cps.toList from hl)] at h
        exact absurd h (by decide)
      · exact ⟨_, rfl, rfl⟩
    · rintro σ H' ⟨v, rfl, rfl⟩
      exact q
theorem lets_len : ∀ ds : List (Fin 26), (lets ds).length = 2 * ds.length
  | [] => rfl
  | d :: ds => by
    show (⟨d, false⟩ :: ⟨d, true⟩ :: lets ds).length = _
    simp only [List.length_cons, lets_len ds]
    omega
def spLetters : Sp := fun vs H Q _ => ∃ ds, vs = [.str (dS ds)] ∧ ds.length ≤ 26 ∧ ∀ p H', H p = none → Same H H' → H' p = some (.tup ((lets ds).map fun x => .str (lS x))) → Q (.ref p) H'
theorem ok_letters_over (T : Top K mg) : FnOk P w K mg base CX0 1 T.d_letters_over.f T.d_letters_over.d ["deeds"] spLetters := by
  refine T.d_letters_over.F.ok sc_letters_over (fun vs H Q E h => ?_) (fun cdv A outer s H vs Q E hr h => ?_)
  · obtain ⟨r, rfl, _⟩ := h
    rfl
  · obtain ⟨ds, rfl, hl, q⟩ := h
    refine ⟨_,
      (pss_one (ps_ret (pe_callTy call_tuple_of (by rfl) T.z_tuple (by decide +kernel) (pa_cons (pe_lc2 (own := [("deed", 1), ("letter", 2)]) (g := (gName 1)) (tt := tYes) (wi1 := iTup K _) (vs1 := [2]) (g1 := (gName 2)) (tt1 := tYes) rfl sc_letters_over.nd (pi_str (pv 0)) (blkOk_by (N := N_letters_over) (sc := defScope s_letters_over) (by decide +kernel)) (by decide) (fun _ _ _ _ _ => (pg_name (i := 1) sc_letters_over.nd rfl (Or.inl rfl))) (fun _ _ _ _ _ => pts_nil) (fun _ _ _ _ _ => (pi_tup (pe_tup (pa_cons (pv 1) (pa_cons (pe_upper (pv 1)) pa_nil))))) (fun _ _ _ _ _ => (pg_name (i := 2) sc_letters_over.nd rfl (Or.inl rfl))) (fun _ _ _ _ _ => pts_nil) (fun _ _ _ _ _ => (pv 2))) pa_nil))))
      , ?_⟩
    refine ⟨_, rfl, _, rfl, fun D hD => ?_⟩
    refine lc2_row (r := ds.map fun d => ⟨d, false⟩) (fun pre H' => Same H H' ∧ H' D = some (.lst ((lets (pre.map (·.d))).map fun x => .str (lS x))) ∧ pre.length ≤ 26) ⟨same_new hD, upd_same, Nat.zero_le _⟩ ?_ ?_
    · rintro pre x post H1 e ⟨s1, hd, hp⟩
      have hlen : pre.length < 26 := by
        have := congrArg List.length e
        simp at this
        omega
      have hxu : x.u = false := by
        have hm : x ∈ ds.map (fun d => (⟨d, false⟩ : Lt)) := by rw [e]; simp
        obtain ⟨d, _, rfl⟩ := List.mem_map.mp hm
        rfl
      have hx1 : lS ⟨x.d, false⟩ = lS x := by cases x; simp only at hxu; rw [hxu]
      have hx2 : Txt.upper (lS x) = lS ⟨x.d, true⟩ := upper_lt x
      refine ⟨rfl, yes_if ?_⟩
      refine ⟨_, rfl, _, rfl, ⟨_, rfl⟩, _, rfl, rfl, (by show 1 ≤ 5592405; decide), (by show 2 ≤ sizeLine; decide), fun t ht => ?_⟩
      rw [hx2]
      refine ⟨_, rfl, ⟨_, SqT.of upd_same⟩, ?_⟩
      have htD : D ≠ t := ne_of_none hd ht
      refine in_dt (K := K) (xs := [.str (lS x), .str (lS ⟨x.d, true⟩)]) (ds := [(⟨x.d, false⟩ : Lt), ⟨x.d, true⟩]) rfl (fun pre2 H' => Same H H' ∧ H' t = some (.tup [.str (lS x), .str (lS ⟨x.d, true⟩)]) ∧ H' D = some (.lst ((lets (pre.map (·.d)) ++ pre2).map fun x => .str (lS x))) ∧ pre2.length ≤ 2) ?_ ?_ ?_ ?_
      · refine ⟨s1.trans (same_new ht), upd_same, ?_, Nat.zero_le _⟩
        rw [upd_ne htD, List.append_nil]
        exact hd
      · rintro pre2 H' ⟨_, h, _⟩
        exact SqT.of h
      · rintro pre2 z post2 v H' e2 hv ⟨s2, ht2, hD2, hp2⟩
        have hz : v = .str (lS z) ∧ pre2.length < 2 := by
          match pre2, e2 with
          | [], e2 =>
            simp at e2 hv
            rw [← hv, ← e2.1, hx1]
            exact ⟨rfl, by decide⟩
          | [a], e2 =>
            simp at e2 hv
            rw [← hv, ← e2.2.1]
            exact ⟨rfl, by simp⟩
          | a :: b :: c, e2 => simp at e2
        refine ⟨rfl, yes_if ?_⟩
        refine ⟨_, rfl, _, hD2, ?_, ?_⟩
        · have h52 : (lets (pre.map (·.d))).length ≤ 52 := by
            rw [lets_len, List.length_map]
            omega
          rw [List.length_map, List.length_append]
          exact small1000 (by omega)
        · refine ⟨same_mut s2 hD, by rw [upd_ne htD.symm]; exact ht2, ?_, by rw [List.length_append]; exact hz.2⟩
          rw [upd_same, hz.1]
          simp
      · rintro H' ⟨s2, ht2, hD2, _⟩
        refine ⟨s2, ?_, by simp; omega⟩
        rw [hD2]
        simp [lets]
    · rintro H1 ⟨s1, hd, hp⟩
      refine ⟨D, _, rfl, .inl ⟨SqL.of hd, fun p hp2 => ?_⟩⟩
      refine q p _ (s1.free hp2) (s1.trans (same_new hp2)) ?_
      have e : (ds.map fun d => (⟨d, false⟩ : Lt)).map (·.d) = ds := by
        rw [List.map_map]
        exact List.map_id ds
      rw [upd_same, e]
/-- a row over deeds -/
def OverD (ds : List (Fin 26)) (r : Row) : Prop := ∀ x ∈ r, x ∈ lets ds
theorem dS_up (ds : List (Fin 26)) : dS ds ++ Txt.upper (dS ds) = rS (ds.map (fun d => (⟨d, false⟩ : Lt)) ++ ds.map (fun d => (⟨d, true⟩ : Lt))) := by
  unfold dS
  rw [upper_row, rS_append, List.map_map]
  rfl
def spRowOver : Sp := fun vs H Q _ => ∃ ds r, vs = [.str (dS ds), .str (rS r)] ∧ ds.length ≤ 26 ∧ OverD ds r ∧ Q (.bl true) H
theorem ok_is_row_over (T : Top K mg) : FnOk P w K mg base CX0 2 T.d_is_row_over.f T.d_is_row_over.d ["deeds", "thing"] spRowOver := by
  refine T.d_is_row_over.F.ok sc_is_row_over (fun vs H Q E h => ?_) (fun cdv A outer s H vs Q E hr h => ?_)
  · obtain ⟨ds, r, rfl, _⟩ := h
    rfl
  · obtain ⟨ds, r, rfl, hl, ho, q⟩ := h
    refine ⟨_,
      (pss_one (ps_ret (pe_call (ok_is_string_of T) (hr.mono (by decide)) (by rfl) T.d_is_string_of.g T.d_is_string_of.F.kp T.d_is_string_of.b .nil pass0 (pa_cons (pv 1) (pa_cons (pe_op op_add_str (pv 0) (pe_upper (pv 0))) pa_nil)))))
      , ?_⟩
    have hu : (dS ds).length ≤ 26 := by rw [dS_len]; exact hl
    refine ⟨_, rfl, _, rfl, _, rfl, ⟨_, rfl⟩, _, rfl, rfl, Nat.le_trans hu (by decide), _, _, rfl, rfl, ?_, r, _, by rw [dS_up]; rfl, ?_⟩
    · have e : Txt.upper (dS ds) = rS ((ds.map (fun d => (⟨d, false⟩ : Lt))).map upLt) := upper_row _
      rw [e, rS_len, List.length_map, List.length_map]
      exact Nat.le_trans (show (dS ds).length + ds.length ≤ 52 by omega) (by decide)
    · have e : decide (∀ x ∈ r, x ∈ ds.map (fun d => (⟨d, false⟩ : Lt)) ++ ds.map (fun d => (⟨d, true⟩ : Lt))) = true := by
        refine decide_eq_true ?_
        intro x hx
        have hd := mem_lets.mp (ho x hx)
        rw [List.mem_append, List.mem_map, List.mem_map]
        obtain ⟨d, u⟩ := x
        cases u
        · exact .inl ⟨d, hd, rfl⟩
        · exact .inr ⟨d, hd, rfl⟩
      rw [e]
      exact q
def spNonOver : Sp := fun vs H Q _ => ∃ ds r, vs = [.str (dS ds), .str (rS r)] ∧ ds.length ≤ 26 ∧ OverD ds r ∧ Q .non H
theorem ok_check_row (T : Top K mg) : FnOk P w K mg base CX0 3 T.d_check_row.f T.d_check_row.d ["deeds", "thing"] spNonOver := by
  refine T.d_check_row.F.ok sc_check_row (fun vs H Q E h => ?_) (fun cdv A outer s H vs Q E hr h => ?_)
  · obtain ⟨ds, r, rfl, _⟩ := h
    rfl
  · obtain ⟨ds, r, rfl, hl, ho, q⟩ := h
    refine ⟨_,
      (pss_one (ps_if (pt_not (pt_val (pe_call (ok_is_row_over T) (hr.mono (by decide)) (by rfl) T.d_is_row_over.g T.d_is_row_over.F.kp T.d_is_row_over.b .nil pass0 (pa_cons (pv 0) (pa_cons (pv 1) pa_nil)))))
      (pss_one ps_never)
      pss_nil))
      , ?_⟩
    exact ⟨_, rfl, _, rfl, ds, r, rfl, hl, ho, true, rfl, iteF q⟩
def spCheckDeeds : Sp := fun vs H Q _ => ∃ ds, vs = [.str (dS ds)] ∧ Asc ds ∧ Q .non H
theorem ok_check_deeds (T : Top K mg) : FnOk P w K mg base CX0 4 T.d_check_deeds.f T.d_check_deeds.d ["thing"] spCheckDeeds := by
  refine T.d_check_deeds.F.ok sc_check_deeds (fun vs H Q E h => ?_) (fun cdv A outer s H vs Q E hr h => ?_)
  · obtain ⟨ds, rfl, _⟩ := h
    rfl
  · obtain ⟨ds, rfl, ho, q⟩ := h
    refine ⟨_,
      (pss_one (ps_if (pt_not (pt_val (pe_call (ok_is_deeds T) (hr.mono (by decide)) (by rfl) T.d_is_deeds.g T.d_is_deeds.F.kp T.d_is_deeds.b .nil pass0 (pa_cons (pv 0) pa_nil))))
      (pss_one ps_never)
      pss_nil))
      , ?_⟩
    exact ⟨_, rfl, ds, rfl, ho, true, rfl, iteF q⟩
def encR (rs : List Row) : List V := rs.map fun r => .str (rS r)
/-- a list or a tuple of rows -/
def RowsAt (K : PySem.W.Frag) (H : Hp) (a : Addr) (rs : List Row) : Prop := H a = some (.lst (encR rs)) ∨ H a = some (.tup (encR rs))
theorem RowsAt.same {K : PySem.W.Frag} {H H' : Hp} {a : Addr} {rs : List Row} (h : RowsAt K H a rs) (e : Same H H') : RowsAt K H' a rs := h.imp (e _ _) (e _ _)
theorem RowsAt.len {K : PySem.W.Frag} {H : Hp} {a : Addr} {rs : List Row} (h : RowsAt K H a rs) : SqL K H a (encR rs) ∨ SqT K H a (encR rs) := h.imp SqL.of SqT.of
theorem RowsAt.typ {K : PySem.W.Frag} {H : Hp} {a : Addr} {rs : List Row} (h : RowsAt K H a rs) : ∃ t, TyX K H (.ref a) (.type t) ∧ (t = "list" ∨ t = "tuple") := by
  rcases h with h | h
  · exact ⟨"list", .base (.lst h), .inl rfl⟩
  · exact ⟨"tuple", .base (.tup h), .inr rfl⟩
def spListed (K : PySem.W.Frag) : Sp := fun vs H Q _ => ∃ a rs, vs = [.ref a] ∧ RowsAt K H a rs ∧ ∀ H', Same H H' → Q (.bl true) H'
theorem ok_is_listed (T : Top K mg) : FnOk P w K mg base CX0 1 T.d_is_listed.f T.d_is_listed.d ["thing"] (spListed K) := by
  refine T.d_is_listed.F.ok sc_is_listed (fun vs H Q E h => ?_) (fun cdv A outer s H vs Q E hr h => ?_)
  · obtain ⟨a, rs, rfl, _⟩ := h
    rfl
  · obtain ⟨a, rs, rfl, hR, q⟩ := h
    refine ⟨_,
      (pss_one (ps_ret (pe_callB call_isiT (by rfl) T.z_isinstance (by decide +kernel) (pa_cons (pv 0) (pa_cons (pe_tup (pa_cons (pe_bltn (v := .ty "list") (u := .type "list") (by rfl) T.z_list (by decide +kernel) rfl) (pa_cons (pe_bltn (v := .ty "tuple") (u := .type "tuple") (by rfl) T.z_tuple (by decide +kernel) rfl) pa_nil))) pa_nil)))))
      , ?_⟩
    obtain ⟨t, ht, e⟩ := hR.typ
    refine ⟨_, rfl, (by show 2 ≤ sizeLine; decide), fun p hp => ?_⟩
    obtain ⟨t2, ht2, e2⟩ := (hR.same (same_new hp)).typ
    refine ⟨.ref a, p, [.ty "list", .ty "tuple"], .type t2, [.type "list", .type "tuple"], true, rfl, upd_same, .cons (.ty _) (.cons (.ty _) .nil), ht2, ?_, q _ (same_new hp)⟩
    rcases e2 with e2 | e2 <;> subst e2
    · exact kitAny_cons (kit_ty (b := "list") (r := true) (by decide +kernel)) (fun h => by cases h) fun _ => rfl
    · exact kitAny_cons (kit_ty (b := "list") (r := false) (by decide +kernel)) (fun _ => kitAny_cons (kit_ty (b := "tuple") (r := true) (by decide +kernel)) (fun h => by cases h) fun _ => rfl) fun h => by cases h
def spRowsOver (K : PySem.W.Frag) : Sp := fun vs H Q _ => ∃ ds a rs, ∃ n m : Nat, vs = [.str (dS ds), .ref a, .int n, .int m] ∧ RowsAt K H a rs ∧ ds.length ≤ 26 ∧ rs.length ≤ n ∧ n ≤ 1000 ∧ m ≤ 1000 ∧ (∀ r ∈ rs, OverD ds r ∧ r.length ≤ m) ∧ ∀ H', Same H H' → Q (.bl true) H'
theorem ok_are_rows_over (T : Top K mg) : FnOk P w K mg base CX0 3 T.d_are_rows_over.f T.d_are_rows_over.d ["deeds", "thing", "most", "longest"] (spRowsOver K) := by
  refine T.d_are_rows_over.F.ok sc_are_rows_over (fun vs H Q E h => ?_) (fun cdv A outer s H vs Q E hr h => ?_)
  · obtain ⟨ds, a, rs, n, m, rfl, _⟩ := h
    rfl
  · obtain ⟨ds, a, rs, n, m, rfl, hR, hds, hn, hn2, hm2, hro, q⟩ := h
    refine ⟨_,
      (pss_cons (ps_if (PW.pt (pw_or (pt_not (pt_val (pe_call (ok_is_listed T) (hr.mono (by decide)) (by rfl) T.d_is_listed.g T.d_is_listed.F.kp T.d_is_listed.b .nil pass0 (pa_cons (pv 1) pa_nil)))) (pw_or1 (pt_cmpR op_gt (pe_callB call_len_seq (by rfl) T.z_len (by decide +kernel) (pa_cons (pv 1) pa_nil)) (pv 2) (nomark _)))))
      (pss_one (ps_ret pe_bl))
      pss_nil)
      (pss_one (ps_ret (pe_callB (cr_all rfl) (by rfl) T.z_all (by decide +kernel) (pa_cons (pe_lc (own := [("row", 4)]) (g := (gName 4)) (tt := tYes) rfl sc_are_rows_over.nd (pi_seq (pv 1)) (blkOk_by (N := N_are_rows_over) (sc := defScope s_are_rows_over) (by decide +kernel)) (fun _ _ _ _ _ => (pg_name (i := 4) sc_are_rows_over.nd rfl (Or.inl rfl))) (fun _ _ _ _ _ => pts_nil) (fun _ _ _ _ _ => (pe_and (pe_call (ok_is_row_over T) (hr.mono (by decide)) (by rfl) T.d_is_row_over.g T.d_is_row_over.F.kp T.d_is_row_over.b .nil pass0 (pa_cons (pv 0) (pa_cons (pv 4) pa_nil))) (pe_one (pe_cmpR op_le (pe_callB call_len_str (by rfl) T.z_len (by decide +kernel) (pa_cons (pv 4) pa_nil)) (pv 3) (nomark _)))))) pa_nil)))))
      , ?_⟩
    have hl : (encR rs).length = rs.length := List.length_map _
    have hrn : OverD ds [] := fun x hx => by simp at hx
    refine ⟨_, rfl, a, rs, rfl, hR, fun H1 s1 => ⟨true, rfl, ?_⟩⟩
    refine iteF ?_
    refine ⟨_, rfl, a, encR rs, rfl, (hR.same s1).len, _, rfl, ?_⟩
    refine ⟨_, _, rfl, rfl, _, rfl, ?_⟩
    have e0 : decide ((n : Int) < ((encR rs).length : Int)) = false := decide_eq_false (by rw [hl]; omega)
    rw [e0]
    refine iteF ?_
    have h0 : ∀ pre r post, rs = pre ++ r :: post → OverD ds r ∧ r.length ≤ m ∧ pre.length < 1000 := by
      intro pre r post e
      have h := hro r (by rw [e]; simp)
      have := congrArg List.length e
      simp at this
      exact ⟨h.1, h.2, by omega⟩
    have body : ∀ (D : Addr) (pre : List Row) (r : Row) (post : List Row) (H' : Hp), rs = pre ++ r :: post → H D = none → Same H H' ∧ H' D = some (.lst (pre.map fun _ => V.bl true)) →
        ∃ acc, H' D = some (.lst acc) ∧ acc.length < sizeLine ∧ Same H (upd H' D (.lst (acc ++ [.bl true]))) ∧ upd H' D (.lst (acc ++ [.bl true])) D = some (.lst ((pre ++ [r]).map fun _ => V.bl true)) := by
      rintro D pre r post H' e hD ⟨s2, hd⟩
      obtain ⟨_, _, h3⟩ := h0 pre r post e
      refine ⟨_, hd, by rw [List.length_map]; exact small1000 (by omega), same_mut s2 hD, ?_⟩
      rw [upd_same]
      simp
    have fin : ∀ D H', Same H H' → H' D = some (.lst (rs.map fun _ => V.bl true)) → ∃ b, ∃ bs : List Bool, [V.ref D] = [V.ref b] ∧ SqL K H' b (bs.map V.bl) ∧ Q (.bl (bs.all id)) H' := by
      intro D H' s2 hd
      refine ⟨D, rs.map fun _ => true, rfl, ?_, ?_⟩
      · rw [List.map_map]
        exact SqL.of hd
      · have e : (rs.map fun _ => true).all id = true := by simp
        rw [e]
        exact q _ s2
    rcases hR.same s1 with hL | hT
    · refine ⟨_, rfl, a, rfl, .inl ⟨⟨_, SqL.of hL⟩, fun D hD => ?_⟩⟩
      refine lc_dl (K := K) (xs := encR rs) (ds := rs) hl (fun pre H' => Same H1 H' ∧ H' D = some (.lst (pre.map fun _ => V.bl true))) ⟨same_new hD, upd_same⟩ (fun pre H' h => SqL.of (h.1 _ _ hL)) ?_ fun H' h => fin D H' (s1.trans h.1) h.2
      rintro pre r post x H' e hx ⟨s2, hd⟩
      obtain ⟨g1, g2, g3⟩ := h0 pre r post e
      have hxr : x = .str (rS r) := by
        unfold encR at hx
        rw [e, List.map_append, List.getElem?_append_right (by simp)] at hx
        simpa using hx.symm
      subst hxr
      refine ⟨rfl, yes_if ?_⟩
      refine ⟨_, rfl, _, rfl, ds, r, rfl, hds, g1, true, rfl, iteT ⟨_, rfl, _, rfl, by rw [rS_len]; exact Nat.le_of_lt (small1000 (by omega)), _, rfl, _, _, rfl, rfl, ?_⟩⟩
      have e2 : decide (((rS r).length : Int) ≤ (m : Int)) = true := decide_eq_true (by rw [rS_len]; omega)
      obtain ⟨acc, a1, a2, a3, a4⟩ := body D pre r post H' e (s1.free hD) ⟨s1.trans s2, hd⟩
      refine ⟨acc, a1, a2, same_mut s2 hD, ?_⟩
      show upd H' D (.lst (acc ++ [.bl (decide (((rS r).length : Int) ≤ (m : Int)))])) D = _
      rw [e2]
      exact a4
    · refine ⟨_, rfl, a, rfl, .inr ⟨⟨_, SqT.of hT⟩, fun D hD => ?_⟩⟩
      refine lc_dt (K := K) (xs := encR rs) (ds := rs) hl (fun pre H' => Same H1 H' ∧ H' D = some (.lst (pre.map fun _ => V.bl true))) ⟨same_new hD, upd_same⟩ (fun pre H' h => SqT.of (h.1 _ _ hT)) ?_ fun H' h => fin D H' (s1.trans h.1) h.2
      rintro pre r post x H' e hx ⟨s2, hd⟩
      obtain ⟨g1, g2, g3⟩ := h0 pre r post e
      have hxr : x = .str (rS r) := by
        unfold encR at hx
        rw [e, List.map_append, List.getElem?_append_right (by simp)] at hx
        simpa using hx.symm
      subst hxr
      refine ⟨rfl, yes_if ?_⟩
      refine ⟨_, rfl, _, rfl, ds, r, rfl, hds, g1, true, rfl, iteT ⟨_, rfl, _, rfl, by rw [rS_len]; exact Nat.le_of_lt (small1000 (by omega)), _, rfl, _, _, rfl, rfl, ?_⟩⟩
      have e2 : decide (((rS r).length : Int) ≤ (m : Int)) = true := decide_eq_true (by rw [rS_len]; omega)
      obtain ⟨acc, a1, a2, a3, a4⟩ := body D pre r post H' e (s1.free hD) ⟨s1.trans s2, hd⟩
      refine ⟨acc, a1, a2, same_mut s2 hD, ?_⟩
      show upd H' D (.lst (acc ++ [.bl (decide (((rS r).length : Int) ≤ (m : Int)))])) D = _
      rw [e2]
      exact a4
def spCheckRows (K : PySem.W.Frag) : Sp := fun vs H Q _ => ∃ ds a rs, ∃ n m : Nat, vs = [.str (dS ds), .ref a, .int n, .int m] ∧ RowsAt K H a rs ∧ ds.length ≤ 26 ∧ rs.length ≤ n ∧ n ≤ 1000 ∧ m ≤ 1000 ∧ (∀ r ∈ rs, OverD ds r ∧ r.length ≤ m) ∧ ∀ H', Same H H' → Q .non H'
theorem ok_check_rows (T : Top K mg) : FnOk P w K mg base CX0 4 T.d_check_rows.f T.d_check_rows.d ["deeds", "thing", "most", "longest"] (spCheckRows K) := by
  refine T.d_check_rows.F.ok sc_check_rows (fun vs H Q E h => ?_) (fun cdv A outer s H vs Q E hr h => ?_)
  · obtain ⟨ds, a, rs, n, m, rfl, _⟩ := h
    rfl
  · obtain ⟨ds, a, rs, n, m, rfl, hR, h1, h2, h3, h4, h5, q⟩ := h
    refine ⟨_,
      (pss_one (ps_if (pt_not (pt_val (pe_call (ok_are_rows_over T) (hr.mono (by decide)) (by rfl) T.d_are_rows_over.g T.d_are_rows_over.F.kp T.d_are_rows_over.b .nil pass0 (pa_cons (pv 0) (pa_cons (pv 1) (pa_cons (pv 2) (pa_cons (pv 3) pa_nil)))))))
      (pss_one ps_never)
      pss_nil))
      , ?_⟩
    exact ⟨_, rfl, _, rfl, _, rfl, _, rfl, ds, a, rs, n, m, rfl, hR, h1, h2, h3, h4, h5, fun H' s1 => ⟨true, rfl, iteF (q _ s1)⟩⟩
end
end Rb
/-! Places that are made one. -/
namespace Rb
set_option linter.all false
set_option maxRecDepth 100000
set_option maxHeartbeats 4000000
open PySem PySem.Spec PyProof.Rows L2
/-- the heads hs stand for R -/
structure HsOk (hs : List Nat) (n : Nat) (R : Nat → Nat) : Prop where
  len : hs.length = n
  le : ∀ i h : Nat, hs[i]? = some h → h ≤ i
  par : ∀ i h : Nat, hs[i]? = some h → R h = R i
  fix : ∀ i : Nat, hs[i]? = some i → R i = i
theorem HsOk.get {hs : List Nat} {n : Nat} {R : Nat → Nat} (o : HsOk hs n R) {i : Nat} (h : i < n) : ∃ h, hs[i]? = some h ∧ h ≤ i ∧ h < n := by
  have hl : i < hs.length := by rw [o.len]; exact h
  have e := List.getElem?_eq_getElem hl
  have := o.le _ _ e
  exact ⟨_, e, this, by omega⟩
theorem HsOk.halve {hs : List Nat} {n : Nat} {R : Nat → Nat} (o : HsOk hs n R) {i h g : Nat} (h1 : hs[i]? = some h) (h2 : hs[h]? = some g) : HsOk (hs.set i g) n R := by
  have hi : i < hs.length := (List.getElem?_eq_some_iff.mp h1).1
  have l1 := o.le _ _ h1
  have l2 := o.le _ _ h2
  refine ⟨by rw [List.length_set]; exact o.len, ?_, ?_, ?_⟩
  · intro j k hk
    by_cases e : i = j
    · subst e
      rw [List.getElem?_set_self hi] at hk
      cases hk
      omega
    · rw [List.getElem?_set_ne e] at hk
      exact o.le _ _ hk
  · intro j k hk
    by_cases e : i = j
    · subst e
      rw [List.getElem?_set_self hi] at hk
      cases hk
      rw [o.par _ _ h2, o.par _ _ h1]
    · rw [List.getElem?_set_ne e] at hk
      exact o.par _ _ hk
  · intro j hk
    by_cases e : i = j
    · subst e
      rw [List.getElem?_set_self hi] at hk
      have : g = i := Option.some.inj hk
      have e2 : h = i := by omega
      rw [e2] at h1
      exact o.fix _ h1
    · rw [List.getElem?_set_ne e] at hk
      exact o.fix _ hk
theorem HsOk.join {hs : List Nat} {n : Nat} {R : Nat → Nat} (o : HsOk hs n R) (r : Roots R) {a b : Nat} (ha : a < n) (hb : b < n) (hne : R a ≠ R b) : HsOk (hs.set (max (R a) (R b)) (min (R a) (R b))) n (joinR R a b) := by
  have ra := r.le a
  have rb := r.le b
  have ia := r.idem a
  have ib := r.idem b
  have hm : max (R a) (R b) < hs.length := by rw [o.len]; omega
  have rmx : R (max (R a) (R b)) = max (R a) (R b) := by
    rcases Nat.le_total (R a) (R b) with e | e
    · rw [Nat.max_eq_right e]; exact ib
    · rw [Nat.max_eq_left e]; exact ia
  have rmn : R (min (R a) (R b)) = min (R a) (R b) := by
    rcases Nat.le_total (R a) (R b) with e | e
    · rw [Nat.min_eq_left e]; exact ia
    · rw [Nat.min_eq_right e]; exact ib
  have hmn : min (R a) (R b) ≠ max (R a) (R b) := by omega
  refine ⟨by rw [List.length_set]; exact o.len, ?_, ?_, ?_⟩
  · intro j k hk
    by_cases e : max (R a) (R b) = j
    · subst e
      rw [List.getElem?_set_self hm] at hk
      cases hk
      omega
    · rw [List.getElem?_set_ne e] at hk
      exact o.le _ _ hk
  · intro j k hk
    by_cases e : max (R a) (R b) = j
    · subst e
      rw [List.getElem?_set_self hm] at hk
      have ek : min (R a) (R b) = k := Option.some.inj hk
      rw [← ek]
      unfold joinR
      rw [rmn, rmx, if_neg hmn, if_pos rfl]
    · rw [List.getElem?_set_ne e] at hk
      unfold joinR
      rw [o.par _ _ hk]
  · intro j hk
    by_cases e : max (R a) (R b) = j
    · subst e
      rw [List.getElem?_set_self hm] at hk
      exact absurd (Option.some.inj hk) hmn
    · rw [List.getElem?_set_ne e] at hk
      have h1 := o.fix _ hk
      unfold joinR
      rw [h1, if_neg (fun z => e z.symm)]
/-- the object at p with its heads at l -/
def PlAt (C : Addr) (H : Hp) (p l n : Nat) (R : Nat → Nat) : Prop := Roots R ∧ n ≤ 100000 ∧ ∃ dx hs, H p = some (.ins C dx [("heads", .ref l)]) ∧ H l = some (.lst (hs.map fun i : Nat => V.int i)) ∧ HsOk hs n R
theorem PlAt.upto {C : Addr} {H H' : Hp} {p l n : Nat} {R : Nat → Nat} {S : List Addr} (h : PlAt C H p l n R) (e : Upto S H H') (hp : p ∉ S) (hl : l ∉ S) : PlAt C H' p l n R := by
  obtain ⟨r, z, dx, hs, h1, h2, h3⟩ := h
  exact ⟨r, z, dx, hs, e _ _ h1 hp, e _ _ h2 hl, h3⟩
theorem PlAt.same {C : Addr} {H H' : Hp} {p l n : Nat} {R : Nat → Nat} (h : PlAt C H p l n R) (e : Same H H') : PlAt C H' p l n R := h.upto (S := []) (Upto.of e) (by simp) (by simp)
theorem PlAt.ne {C : Addr} {H : Hp} {p l n : Nat} {R : Nat → Nat} (h : PlAt C H p l n R) : p ≠ l := by
  obtain ⟨_, _, dx, hs, h1, h2, _⟩ := h
  exact ne_of h1 h2 (by intro z; cases z)
section
variable {P : Program} {w : World} {K : PySem.W.Frag} {mg : Str → Option Value} {base : Heap}
def spPlInit (C : Addr) : Sp := fun vs H Q _ => ∃ (p dx : Addr) (n : Nat), vs = [.ref p, .int n] ∧ n ≤ 100000 ∧ H p = some (.ins C dx []) ∧ ∀ (l : Addr) (H' : Hp), H l = none → PlAt C H' p l n id → Upto [p] H H' → Q .non H'
theorem ok_Places___init__ (T : Top K mg) : FnOk P w K mg base CX0 1 T.m_Places___init__.f T.m_Places___init__.d ["self", "many"] (spPlInit T.C_Places) := by
  refine T.m_Places___init__.F.ok sc_Places___init__ (fun vs H Q E h => ?_) (fun cdv A outer s H vs Q E hr h => ?_)
  · obtain ⟨p, dx, n, rfl, _⟩ := h
    rfl
  · obtain ⟨p, dx, n, rfl, hn, hp, q⟩ := h
    refine ⟨_,
      (pss_one (ps_fld (pv 0) (pe_listRg rfl (by rfl) T.z_list (prg_1 (by rfl) T.z_range (pv 1))) rfl))
      , ?_⟩
    refine ⟨_, rfl, n, rfl, ⟨by omega, by omega, by omega, by omega, by omega⟩, fun l hl => ?_⟩
    have hpl : p ≠ l := ne_of_none hp hl
    refine ⟨_, rfl, p, T.C_Places, dx, [], rfl, by rw [upd_ne hpl]; exact hp, T.k_Places.cl, T.n_Places_heads, by show 0 < 1000; decide, ?_⟩
    have e : rgV 0 (n : Int) = (List.range n).map fun i : Nat => V.int i := by
      unfold rgV
      simp
    refine q l _ hl ⟨⟨fun _ => rfl, fun _ => Nat.le_refl _⟩, hn, dx, List.range n, by rw [upd_same]; rfl, ?_, ⟨by simp, ?_, fun i h _ => ?_, fun _ _ => rfl⟩⟩ ?_
    · rw [upd_ne hpl.symm, upd_same, e]
    · intro i h hi
      have h2 : i < (List.range n).length := (List.getElem?_eq_some_iff.mp hi).1
      rw [List.getElem?_eq_getElem h2, List.getElem_range] at hi
      cases hi
      exact Nat.le_refl _
    · rename_i hi
      have h2 : i < (List.range n).length := (List.getElem?_eq_some_iff.mp hi).1
      rw [List.getElem?_eq_getElem h2, List.getElem_range] at hi
      cases hi
      rfl
    · intro b o hb hn
      have h1 : b ≠ p := fun z => hn (by rw [z]; simp)
      rw [upd_ne h1, upd_ne (ne_of_none hb hl)]
      exact hb
def spHead (C : Addr) : Sp := fun vs H Q _ => ∃ (p l n i : Nat) (R : Nat → Nat), vs = [.ref p, .int i] ∧ PlAt C H p l n R ∧ i < n ∧ ∀ H', PlAt C H' p l n R → Upto [l] H H' → Q (.int (R i)) H'
theorem ok_Places_head (T : Top K mg) : FnOk P w K mg base CX0 1 T.m_Places_head.f T.m_Places_head.d ["self", "place"] (spHead T.C_Places) := by
  refine T.m_Places_head.F.ok sc_Places_head (fun vs H Q E h => ?_) (fun cdv A outer s H vs Q E hr h => ?_)
  · obtain ⟨p, l, n, i, R, rfl, _⟩ := h
    rfl
  · obtain ⟨p, l, n, i, R, rfl, hP, hi, q⟩ := h
    refine ⟨_,
      (pss_cons (ps_while PassesOwn.never (pt_cmpR op_ne (pe_ix ix_list (pe_fld (pv 0) rfl) (pv 1) (fun _ _ => rfl)) (pv 1) (nomark _))
      (pss_cons (ps_asg (pe_ix ix_list (pe_fld (pv 0) rfl) (pe_ix ix_list (pe_fld (pv 0) rfl) (pv 1) (fun _ _ => rfl)) (fun _ _ => rfl)) (pg_sub (pe_fld (pv 0) rfl) (pv 1) set_list))
      (pss_one (ps_set (i := 1) sc_Places_head.nd rfl (Or.inl rfl) (pe_ix ix_list (pe_fld (pv 0) rfl) (pv 1) (fun _ _ => rfl))))))
      (pss_one (ps_ret (pv 1))))
      , ?_⟩
    refine while_w (fun j σ H' => σ = [some (.ref p), some (.int j)] ∧ j < n ∧ R j = R i ∧ PlAt T.C_Places H' p l n R ∧ Upto [l] H H') i ⟨rfl, hi, rfl, hP, Upto.refl _ _⟩ ?_
    · rintro j σ H' ⟨rfl, hj, hR, hP', hU⟩
      have hne := hP'.ne
      obtain ⟨r, hz, dx, hs, g1, g2, g3⟩ := hP'
      obtain ⟨h, e1, e2, e3⟩ := g3.get hj
      obtain ⟨g, f1, f2, f3⟩ := g3.get e3
      have a1 : atI (hs.map fun i : Nat => V.int i) (j : Int) = some (.int h) := atI_nat (by rw [List.getElem?_map, e1]; rfl)
      have a2 : atI (hs.map fun i : Nat => V.int i) (h : Int) = some (.int g) := atI_nat (by rw [List.getElem?_map, f1]; rfl)
      refine ⟨_, rfl, p, T.C_Places, dx, _, _, rfl, g1, T.k_Places.cl, T.n_Places_heads, rfl, _, rfl, l, _, _, _, rfl, rfl, SqL.of g2, a1, _, rfl, rfl, _, rfl, ?_⟩
      refine ite2 (fun c => ?_) (fun c => ?_)
      · have hjh : h ≠ j := by
          intro z
          subst z
          simp at c
        refine ⟨fun σ' H2 => ∃ m' < j, σ' = [some (.ref p), some (.int m')] ∧ m' < n ∧ R m' = R i ∧ PlAt T.C_Places H2 p l n R ∧ Upto [l] H H2, fun _ _ h => h, ?_⟩
        refine ⟨_, rfl, p, T.C_Places, dx, _, _, rfl, g1, T.k_Places.cl, T.n_Places_heads, rfl, _, rfl, p, T.C_Places, dx, _, _, rfl, g1, T.k_Places.cl, T.n_Places_heads, rfl, _, rfl, l, _, _, _, rfl, rfl, SqL.of g2, a1, l, _, _, _, rfl, rfl, SqL.of g2, a2, ?_⟩
        refine ⟨_, rfl, p, T.C_Places, dx, _, _, rfl, g1, T.k_Places.cl, T.n_Places_heads, rfl, _, rfl, l, _, _, j, rfl, rfl, g2, ix_nat (by rw [List.length_map, g3.len]; exact hj), ?_⟩
        have g1' : (upd H' l (.lst ((hs.map fun i : Nat => V.int i).set j (.int g)))) p = some (.ins T.C_Places dx [("heads", .ref l)]) := by rw [upd_ne hne]; exact g1
        have a3 : atI ((hs.map fun i : Nat => V.int i).set j (.int g)) (j : Int) = some (.int g) := atI_nat (by rw [List.getElem?_set_self (by rw [List.length_map, g3.len]; exact hj)])
        refine ⟨_, rfl, p, T.C_Places, dx, _, _, rfl, g1', T.k_Places.cl, T.n_Places_heads, rfl, _, rfl, l, _, _, _, rfl, rfl, SqL.of upd_same, a3, ?_⟩
        have em : (hs.map fun i : Nat => V.int i).set j (.int g) = (hs.set j g).map fun i : Nat => V.int i := by rw [List.map_set]
        refine ⟨g, by omega, rfl, f3, ?_, ⟨r, hz, dx, hs.set j g, g1', by rw [upd_same, em], g3.halve e1 f1⟩, ?_⟩
        · rw [← hR, ← g3.par _ _ e1, ← g3.par _ _ f1]
        · intro b o hb hn
          have h1 : b ≠ l := fun z => hn (by rw [z]; simp)
          rw [upd_ne h1]
          exact hU b o hb hn
      · have hjh : h = j := by
          by_cases z : h = j
          · exact z
          · exfalso
            apply c
            simp
            omega
        subst hjh
        have := g3.fix _ e1
        refine ⟨_, rfl, ?_⟩
        rw [← this, hR]
        exact q _ ⟨r, hz, dx, hs, g1, g2, g3⟩ hU
def spJoin (C : Addr) : Sp := fun vs H Q _ => ∃ (p l n a b : Nat) (R : Nat → Nat), vs = [.ref p, .int a, .int b] ∧ PlAt C H p l n R ∧ a < n ∧ b < n ∧ ∀ H', PlAt C H' p l n (joinR R a b) → Upto [l] H H' → Q (.bl (decide (R a ≠ R b))) H'
theorem ok_Places_join (T : Top K mg) : FnOk P w K mg base CX0 2 T.m_Places_join.f T.m_Places_join.d ["self", "one", "other"] (spJoin T.C_Places) := by
  refine T.m_Places_join.F.ok sc_Places_join (fun vs H Q E h => ?_) (fun cdv A outer s H vs Q E hr h => ?_)
  · obtain ⟨p, l, n, a, b, R, rfl, _⟩ := h
    rfl
  · obtain ⟨p, l, n, a, b, R, rfl, hP, ha, hb, q⟩ := h
    refine ⟨_,
      (pss_cons (ps_set (i := 3) sc_Places_join.nd rfl (Or.inl rfl) (pe_meth (pv 0) T.k_Places.cl T.m_Places_head.m (ok_Places_head T) (hr.mono (by decide)) T.m_Places_head.b .nil pass0 (pa_cons (pv 1) pa_nil)))
      (pss_cons (ps_set (i := 4) sc_Places_join.nd rfl (Or.inl rfl) (pe_meth (pv 0) T.k_Places.cl T.m_Places_head.m (ok_Places_head T) (hr.mono (by decide)) T.m_Places_head.b .nil pass0 (pa_cons (pv 2) pa_nil)))
      (pss_cons (ps_if (pt_cmpR op_eq (pv 3) (pv 4) (nomark _))
      (pss_one (ps_ret pe_bl))
      pss_nil)
      (pss_cons (ps_asg (pe_callB (call_min2 rfl) (by rfl) T.z_min (by decide +kernel) (pa_cons (pv 3) (pa_cons (pv 4) pa_nil))) (pg_sub (pe_fld (pv 0) rfl) (pe_callB (call_max2 rfl) (by rfl) T.z_max (by decide +kernel) (pa_cons (pv 3) (pa_cons (pv 4) pa_nil))) set_list))
      (pss_one (ps_ret pe_bl))))))
      , ?_⟩
    have key : ∀ H', PlAt T.C_Places H' p l n R → ∃ dx hs, H' p = some (.ins T.C_Places dx [("heads", .ref l)]) ∧ H' l = some (.lst (hs.map fun i : Nat => V.int i)) ∧ HsOk hs n R := fun H' h => h.2.2
    obtain ⟨dx0, hs0, g0, _, _⟩ := key H hP
    refine ⟨_, rfl, p, dx0, _, rfl, g0, rfl, _, rfl, p, l, n, a, R, rfl, hP, ha, fun H1 hP1 u1 => ?_⟩
    obtain ⟨dx1, hs1, g1, _, _⟩ := key H1 hP1
    refine ⟨_, rfl, p, dx1, _, rfl, g1, rfl, _, rfl, p, l, n, b, R, rfl, hP1, hb, fun H2 hP2 u2 => ?_⟩
    refine ⟨_, rfl, _, rfl, rfl, _, rfl, ?_⟩
    refine ite2 (fun c => ?_) (fun c => ?_)
    · have e : R a = R b := by
        have : ((R a : Nat) : Int) = ((R b : Nat) : Int) := by simpa using c
        omega
      rw [joinR_same e] at q
      have e2 : decide (R a ≠ R b) = false := decide_eq_false (by simp [e])
      rw [e2] at q
      exact q H2 hP2 (u1.trans u2)
    · have hne : R a ≠ R b := by
        have : ¬ ((R a : Nat) : Int) = ((R b : Nat) : Int) := by simpa using c
        omega
      have e2 : decide (R a ≠ R b) = true := decide_eq_true hne
      rw [e2] at q
      obtain ⟨dx, hs, g3, g4, g5⟩ := key H2 hP2
      have r := hP2.1
      have la := r.le a
      have lb := r.le b
      refine ⟨_, rfl, _, rfl, _, _, rfl, ?_⟩
      have emn : (if (R b : Int) < (R a : Int) then (R b : Int) else (R a : Int)) = ((min (R a) (R b) : Nat) : Int) := by
        split <;> omega
      have emx : (if (R b : Int) > (R a : Int) then (R b : Int) else (R a : Int)) = ((max (R a) (R b) : Nat) : Int) := by
        split <;> omega
      rw [emn]
      refine ⟨_, rfl, p, T.C_Places, dx, _, _, rfl, g3, T.k_Places.cl, T.n_Places_heads, rfl, _, rfl, _, rfl, _, _, rfl, ?_⟩
      rw [emx]
      refine ⟨l, _, _, max (R a) (R b), rfl, rfl, g4, ix_nat (by rw [List.length_map, g5.len]; omega), ?_⟩
      have hpl := hP2.ne
      refine q _ ⟨joinR_roots _ _ r, hP.2.1, dx, hs.set (max (R a) (R b)) (min (R a) (R b)), by rw [upd_ne hpl]; exact g3, ?_, g5.join r ha hb hne⟩ ?_
      · rw [upd_same, List.map_set]
      · intro b' o hb' hn
        have h1 : b' ≠ l := fun z => hn (by rw [z]; simp)
        rw [upd_ne h1]
        exact u2 _ _ (u1 _ _ hb' hn) hn
end
end Rb
/-! Ways and arrows in the heap; chains; nets. -/
namespace Rb
set_option linter.all false
set_option maxRecDepth 100000
set_option maxHeartbeats 4000000
open PySem PySem.Spec PyProof.Rows L2
/-- a list of ways | of arrows -/
def WaysAt (K : PySem.W.Frag) (H : Hp) (a : Addr) (W : List Way) : Prop := ∃ vs, H a = some (.lst vs) ∧ DpAll K H vs (W.map encW)
def ArrsAt (K : PySem.W.Frag) (H : Hp) (a : Addr) (A : List Arr) : Prop := ∃ vs, H a = some (.lst vs) ∧ DpAll K H vs (A.map encA)
theorem WaysAt.upto {K : PySem.W.Frag} {H H' : Hp} {a : Addr} {W : List Way} {S : List Addr} (h : WaysAt K H a W) (e : Upto S H H') (k : KeepT H H') (ha : a ∉ S) : WaysAt K H' a W := by
  obtain ⟨vs, h1, h2⟩ := h
  exact ⟨vs, e _ _ h1 ha, dpAll_keep k h2 (flat_ways W)⟩
theorem WaysAt.same {K : PySem.W.Frag} {H H' : Hp} {a : Addr} {W : List Way} (h : WaysAt K H a W) (e : Same H H') : WaysAt K H' a W := h.upto (S := []) (Upto.of e) (KeepT.of e) (by simp)
theorem ArrsAt.upto {K : PySem.W.Frag} {H H' : Hp} {a : Addr} {W : List Arr} {S : List Addr} (h : ArrsAt K H a W) (e : Upto S H H') (k : KeepT H H') (ha : a ∉ S) : ArrsAt K H' a W := by
  obtain ⟨vs, h1, h2⟩ := h
  exact ⟨vs, e _ _ h1 ha, dpAll_keep k h2 (flat_arrs W)⟩
theorem ArrsAt.same {K : PySem.W.Frag} {H H' : Hp} {a : Addr} {W : List Arr} (h : ArrsAt K H a W) (e : Same H H') : ArrsAt K H' a W := h.upto (S := []) (Upto.of e) (KeepT.of e) (by simp)
/-- an item of a list of ways | arrows -/
theorem way_at {K : PySem.W.Frag} {H : Hp} {vs : List V} {W pre post : List Way} {w : Way} {x : V} (h : DpAll K H vs (W.map encW)) (e : W = pre ++ w :: post) (hx : vs[pre.length]? = some x) :
    ∃ t, x = .ref t ∧ SqT K H t [.int w.1, .str (lS ⟨w.2.1, false⟩), .int w.2.2] := by
  obtain ⟨d, h1, h2⟩ := dp_get h hx
  rw [e, List.map_append, List.getElem?_append_right (by simp)] at h1
  simp at h1
  subst h1
  exact dp_tup3 h2
theorem arr_at {K : PySem.W.Frag} {H : Hp} {vs : List V} {W pre post : List Arr} {w : Arr} {x : V} (h : DpAll K H vs (W.map encA)) (e : W = pre ++ w :: post) (hx : vs[pre.length]? = some x) :
    ∃ t, x = .ref t ∧ SqT K H t [.int w.1, .str (lS w.2.1), .int w.2.2] := by
  obtain ⟨d, h1, h2⟩ := dp_get h hx
  rw [e, List.map_append, List.getElem?_append_right (by simp)] at h1
  simp at h1
  subst h1
  exact dp_tup3 h2
theorem low_test (x : Lt) : decide (V.str (lS x) = V.str (Txt.lower (lS x))) = !x.u := by
  rw [lower_lt]
  obtain ⟨d, u⟩ := x
  cases u with
  | false => simp [lowLt]
  | true =>
    simp only [lowLt]
    refine decide_eq_false ?_
    intro h
    have h2 := lS_inj (V.str.inj h)
    simp at h2
theorem lS_ne (x : Lt) : ¬ (V.str (lS x) = V.str ("" : Str)) := by
  intro h
  have h2 : lS x = Str.empty := V.str.inj h
  have h3 := congrArg (fun s : Str => s.cps.size) h2
  simp [lS, Str.empty] at h3
theorem sz100 {n : Nat} (h : n ≤ 100000) : n < sizeLine := Nat.lt_of_le_of_lt h (by decide)
/-- a list or a tuple of ways -/
def WaysIn (K : PySem.W.Frag) (H : Hp) (a : Addr) (W : List Way) : Prop := ∃ xs, (H a = some (.lst xs) ∨ H a = some (.tup xs)) ∧ DpAll K H xs (W.map encW)
theorem WaysIn.of {K : PySem.W.Frag} {H : Hp} {a : Addr} {W : List Way} (h : WaysAt K H a W) : WaysIn K H a W := by
  obtain ⟨xs, h1, h2⟩ := h
  exact ⟨xs, .inl h1, h2⟩
theorem WaysIn.upto {K : PySem.W.Frag} {H H' : Hp} {a : Addr} {W : List Way} {S : List Addr} (h : WaysIn K H a W) (e : Upto S H H') (k : KeepT H H') (ha : a ∉ S) : WaysIn K H' a W := by
  obtain ⟨xs, h1, h2⟩ := h
  exact ⟨xs, h1.imp (fun h => e _ _ h ha) (fun h => e _ _ h ha), dpAll_keep k h2 (flat_ways _)⟩
/-! ### over a list or a tuple -/
section
variable {K : PySem.W.Frag} {g : TG} {tb : TS} {D : Ends} {σ : L2.St} {H : Hp} {α : Type}
theorem for_seq {a : Addr} {xs : List V} {ds : List α} (hlen : xs.length = ds.length) (Pv : List α → L2.St → Hp → Prop) (h0 : Pv [] σ H) (hl : (∀ pre σ H, Pv pre σ H → SqL K H a xs) ∨ (∀ pre σ H, Pv pre σ H → SqT K H a xs))
    (hs : ∀ pre d post x σ H, ds = pre ++ d :: post → xs[pre.length]? = some x → Pv pre σ H → g x σ H fun σ2 H2 => tb { D with nx := Pv (pre ++ [d]), ct := Pv (pre ++ [d]), bk := D.nx } σ2 H2) (hd : ∀ σ H, Pv ds σ H → D.nx σ H) :
    ((∃ xs, SqL K H a xs) ∧ ∃ W : Nat → Nat → L2.St → Hp → Prop, (∃ m, W 0 m σ H) ∧ ∀ i m σ H, W i m σ H →
      ((Itl K a).stop i H ∧ D.nx σ H) ∨ ((Itl K a).go i H ∧ ∃ N : L2.St → Hp → Prop, (∀ σ' H', N σ' H' → ∃ m', m' < m ∧ W (i + 1) m' σ' H') ∧ ∀ x H', (Itl K a).yld i H x H' → g x σ H' fun σ2 H2 => tb { D with nx := N, ct := N, bk := D.nx } σ2 H2)) ∨
    ((∃ xs, SqT K H a xs) ∧ ∃ W : Nat → Nat → L2.St → Hp → Prop, (∃ m, W 0 m σ H) ∧ ∀ i m σ H, W i m σ H →
      ((Itt K a).stop i H ∧ D.nx σ H) ∨ ((Itt K a).go i H ∧ ∃ N : L2.St → Hp → Prop, (∀ σ' H', N σ' H' → ∃ m', m' < m ∧ W (i + 1) m' σ' H') ∧ ∀ x H', (Itt K a).yld i H x H' → g x σ H' fun σ2 H2 => tb { D with nx := N, ct := N, bk := D.nx } σ2 H2)) := by
  rcases hl with hl | hl
  · exact .inl ⟨⟨_, hl _ _ _ h0⟩, for_dl hlen Pv h0 hl hs hd⟩
  · exact .inr ⟨⟨_, hl _ _ _ h0⟩, for_dt hlen Pv h0 hl hs hd⟩
end
section
variable {P : Program} {w : World} {K : PySem.W.Frag} {mg : Str → Option Value} {base : Heap}
def spFwd (K : PySem.W.Frag) : Sp := fun vs H Q _ => ∃ a A, vs = [.ref a] ∧ ArrsAt K H a A ∧ A.length ≤ 100000 ∧ ∀ p H', H p = none → Same H H' → WaysAt K H' p (fwd A) → Q (.ref p) H'
theorem ok_forward_ways (T : Top K mg) : FnOk P w K mg base CX0 2 T.d_forward_ways.f T.d_forward_ways.d ["arrows"] (spFwd K) := by
  refine T.d_forward_ways.F.ok sc_forward_ways (fun vs H Q E h => ?_) (fun cdv A outer s H vs Q E hr h => ?_)
  · obtain ⟨a, A, rfl, _⟩ := h
    rfl
  · obtain ⟨a, A, rfl, hA, hl, q⟩ := h
    refine ⟨_,
      (pss_cons (ps_set (i := 1) sc_forward_ways.nd rfl (Or.inl rfl) (pe_lst pa_nil))
      (pss_cons (ps_for PassesOwn.never rfl (pi_list (pv 0)) (pg_tup (by rfl) (pgs_cons (pg_name (i := 2) sc_forward_ways.nd rfl (Or.inl rfl)) (pgs_cons (pg_name (i := 3) sc_forward_ways.nd rfl (Or.inl rfl)) (pgs_cons (pg_name (i := 4) sc_forward_ways.nd rfl (Or.inl rfl)) pgs_nil))))
      (pss_one (ps_if (pt_cmpR op_ne (pv 3) pe_str (nomark _))
      (pss_one (ps_if (pt_cmpR op_eq (pv 3) (pe_lower (pv 3)) (nomark _))
      (pss_one (ps_expr (pe_bm PySem.F.plainAttrs_list PySem.F.slot_list_append PySem.F.type_list_append mt_append (pv 1) (pa_cons (pe_tup (pa_cons (pv 2) (pa_cons (pv 3) (pa_cons (pv 4) pa_nil)))) pa_nil))))
      (pss_one (ps_expr (pe_bm PySem.F.plainAttrs_list PySem.F.slot_list_append PySem.F.type_list_append mt_append (pv 1) (pa_cons (pe_tup (pa_cons (pv 4) (pa_cons (pe_call (ok_undoing_of T) (hr.mono (by decide)) (by rfl) T.d_undoing_of.g T.d_undoing_of.F.kp T.d_undoing_of.b .nil pass0 (pa_cons (pv 3) pa_nil)) (pa_cons (pv 2) pa_nil)))) pa_nil))))))
      pss_nil)))
      (pss_one (ps_ret (pv 1)))))
      , ?_⟩
    refine ⟨Nat.zero_le _, fun o ho => ?_⟩
    have sA := hA.same (same_new ho (o := .lst []))
    obtain ⟨vs, hv, hd⟩ := id hA
    have hvl : vs.length = A.length := by rw [dp_len hd, List.length_map]
    refine ⟨_, rfl, a, rfl, ⟨_, SqL.of (same_new ho _ _ hv)⟩, for_dl (K := K) (xs := vs) (ds := A) hvl (fun pre σ H' => ∃ v1 v2 v3, σ = [some (.ref a), some (.ref o), v1, v2, v3] ∧ Same H H' ∧ WaysAt K H' o (fwd pre)) ⟨none, none, none, rfl, same_new ho, [], upd_same, .nil⟩
      (fun pre σ H' ⟨_, _, _, _, s1, _⟩ => SqL.of (s1 _ _ hv)) ?_ ?_⟩
    · rintro pre ⟨p, x, r⟩ post v σ H' e hx ⟨v1, v2, v3, rfl, s1, ws, hw, hwd⟩
      obtain ⟨t, rfl, ht⟩ := arr_at (dpAll_same s1 hd) e hx
      have hpl : ws.length < sizeLine := by
        rw [dp_len hwd, List.length_map]
        unfold fwd
        rw [List.length_map]
        have := congrArg List.length e
        simp at this
        exact sz100 (by omega)
      refine ⟨t, _, rfl, ht, rfl, _, _, rfl, _, _, rfl, _, _, rfl, rfl, ?_⟩
      refine ⟨_, rfl, rfl, _, rfl, ?_⟩
      refine ite2 (fun c => ?_) (fun c => ?_)
      · refine ⟨_, rfl, _, rfl, ⟨_, rfl⟩, _, rfl, rfl, (by show 1 ≤ 5592405; decide), rfl, _, rfl, ?_⟩
        rw [low_test x]
        have fin : ∀ (w : Way) (t2 : Addr) (H2 : Hp), fwd1 (p, x, r) = w → H' t2 = none → H2 = upd H' t2 (.tup [.int w.1, .str (lS ⟨w.2.1, false⟩), .int w.2.2]) →
            H2 o = some (.lst ws) ∧ Same H (upd H2 o (.lst (ws ++ [.ref t2]))) ∧ WaysAt K (upd H2 o (.lst (ws ++ [.ref t2]))) o (fwd (pre ++ [(p, x, r)])) := by
          intro w t2 H2 ew ht2 eH2
          have hot : o ≠ t2 := ne_of_none hw ht2
          have h2 : H2 o = some (.lst ws) := by rw [eH2, upd_ne hot]; exact hw
          have s2 : Same H' H2 := by rw [eH2]; exact same_new ht2
          refine ⟨h2, same_mut (s1.trans s2) ho, ws ++ [.ref t2], upd_same, ?_⟩
          have k2 : KeepT H2 (upd H2 o (.lst (ws ++ [.ref t2]))) := KeepT.put (.inr (by rw [h2]; exact True.intro))
          have e1 : (fwd (pre ++ [(p, x, r)])).map encW = (fwd pre).map encW ++ [encW w] := by
            unfold fwd
            rw [List.map_append, List.map_append]
            simp [ew]
          rw [e1]
          refine dp_snoc ?_ (dpAll_keep k2 (dpAll_keep (KeepT.of s2) hwd (flat_ways _)) (flat_ways _))
          refine dp_of3 (k2.sqT (SqT.of ?_))
          rw [eH2, upd_same]
        cases hxu : x.u with
        | false =>
          refine iteT ?_
          refine ⟨.ref o, rfl, .inl ⟨rfl, _, SqL.of hw⟩, _, rfl, _, rfl, _, rfl, (by show 3 ≤ sizeLine; decide), fun t2 ht2 => ?_⟩
          have e1 : fwd1 (p, x, r) = (p, x.d, r) := by simp [fwd1, hxu]
          have ex : lS x = lS ⟨x.d, false⟩ := by cases x; simp only at hxu; rw [hxu]
          rw [ex]
          obtain ⟨g1, g2, g3⟩ := fin (p, x.d, r) t2 _ e1 ht2 rfl
          exact ⟨o, _, _, rfl, rfl, g1, hpl, _, _, _, rfl, g2, g3⟩
        | true =>
          refine iteF ?_
          refine ⟨.ref o, rfl, .inl ⟨rfl, _, SqL.of hw⟩, _, rfl, _, rfl, [x], rfl, by simp, _, rfl, (by show 3 ≤ sizeLine; decide), fun t2 ht2 => ?_⟩
          have e1 : fwd1 (p, x, r) = (r, x.d, p) := by simp [fwd1, hxu]
          have ex : rS ([x].map Lt.inv) = lS ⟨x.d, false⟩ := by
            show lS x.inv = _
            cases x; simp only at hxu; rw [hxu]; rfl
          rw [ex]
          obtain ⟨g1, g2, g3⟩ := fin (r, x.d, p) t2 _ e1 ht2 rfl
          exact ⟨o, _, _, rfl, rfl, g1, hpl, _, _, _, rfl, g2, g3⟩
      · exfalso
        rw [decide_eq_false (lS_ne x)] at c
        exact c rfl
    · rintro σ H' ⟨v1, v2, v3, rfl, s1, hw⟩
      exact ⟨_, rfl, q o H' ho s1 hw⟩
end
end Rb
/-! Joining passes. -/
namespace Rb
set_option linter.all false
set_option maxRecDepth 100000
set_option maxHeartbeats 4000000
open PySem PySem.Spec PyProof.Rows L2
def keyT (k : Nat × Fin 26) : List L2.Key := [.inl k.1, .inr (lS ⟨k.2, false⟩)]
def tabT (t : Tab) : List (List L2.Key × V) := t.map fun e => (keyT e.1, V.int e.2)
theorem keyT_inj {k k' : Nat × Fin 26} (h : keyT k = keyT k') : k = k' := by
  obtain ⟨a, d⟩ := k
  obtain ⟨b, e⟩ := k'
  simp only [keyT, List.cons.injEq, Sum.inl.injEq, Sum.inr.injEq, and_true] at h
  have h1 : a = b := by omega
  have h2 := lS_inj h.2
  simp at h2
  rw [h1, h2]
theorem valV_tab : ∀ (t : Tab) (k : Nat × Fin 26), valV (tabT t) (keyT k) = (look t k).map fun v : Nat => V.int v
  | [], _ => rfl
  | e :: t, k => by
    have ih := valV_tab t k
    unfold tabT look at *
    rw [List.map_cons]
    by_cases h : e.1 = k
    · rw [valV_pos (by rw [h]), List.find?_cons, decide_eq_true h]
      rfl
    · rw [valV_neg (fun z => h (keyT_inj z)), ih, List.find?_cons, decide_eq_false h]
theorem putK_tab {t : Tab} {k : Nat × Fin 26} {v : Nat} (h : look t k = none) : putK (tabT t) (keyT k) (.int v) = tabT (setd t k v) := by
  rw [putK_new _ (by rw [valV_tab, h]; rfl)]
  unfold setd
  rw [h]
  simp [tabT]
theorem tab_len (t : Tab) : (tabT t).length = t.length := List.length_map _
theorem setd_len (t : Tab) (k : Nat × Fin 26) (v : Nat) : (setd t k v).length ≤ t.length + 1 := by
  unfold setd
  cases look t k <;> simp
theorem pass_len : ∀ (ws : List Way) (s : Pass), (ws.foldl turn s).ah.length ≤ s.ah.length + ws.length ∧ (ws.foldl turn s).bh.length ≤ s.bh.length + ws.length
  | [], s => by simp
  | w :: ws, s => by
    obtain ⟨h1, h2⟩ := pass_len ws (turn s w)
    have g1 : (turn s w).ah.length ≤ s.ah.length + 1 := setd_len _ _ _
    have g2 : (turn s w).bh.length ≤ s.bh.length + 1 := setd_len _ _ _
    simp only [List.foldl_cons, List.length_cons]
    omega
section
variable {P : Program} {w : World} {K : PySem.W.Frag} {mg : Str → Option Value} {base : Heap}
/-- d.setdefault((h, deed), v), join, changed -/
theorem rd_meet {C : Addr} {σ : L2.St} {H : Hp} {D : Ends} {i1 ih iv : Nat} {p l n : Nat} {R : Nat → Nat} {d : Addr} {t : Tab} {h v : Nat} {dd : Fin 26} {ch : Bool} {Ex : XK}
    (s0 : σ[0]? = some (some (.ref p))) (s2 : σ[2]? = some (some (.bl ch))) (s6 : σ[6]? = some (some (.str (lS ⟨dd, false⟩)))) (sd : σ[i1]? = some (some (.ref d))) (sh : σ[ih]? = some (some (.int h))) (sv : σ[iv]? = some (some (.int v)))
    (hP : PlAt C H p l n R) (hd : H d = some (.dT (tabT t))) (ht : t.length < 1000000) (hv : v < n) (hl : ∀ k u, look t k = some u → u < n)
    (go : ∀ H', PlAt C H' p l n (joinR R ((look t (h, dd)).getD v) v) → H' d = some (.dT (tabT (setd t (h, dd) v))) → Upto [l, d] H H' → D.nx (σ.set 2 (some (.bl (ch || decide (R ((look t (h, dd)).getD v) ≠ R v))))) H') :
    tIfS (tB (tMeth C "join" (spJoin C) [] Ex (tVar 0) (tCons (tDSetdT (tVar i1) (tTup (tCons (tVar ih) (tCons (tVar 6) tNil))) (tVar iv)) (tCons (tVar iv) tNil)))) (tAsg (tC (.bl true)) (gName 2)) tNext D σ H := by
  obtain ⟨r, hn, dx, hs, g1, g2, g3⟩ := id hP
  have hld : l ≠ d := ne_of g2 hd (by intro z; cases z)
  have hpd : p ≠ d := ne_of g1 hd (by intro z; cases z)
  refine ⟨_, s0, p, dx, _, rfl, g1, rfl, ?_⟩
  refine ⟨_, sd, d, rfl, .inr ⟨_, .inl hd⟩, _, sh, _, s6, (by show 2 ≤ sizeLine; decide), fun q hq => ?_⟩
  have hqd : d ≠ q := ne_of_none hd hq
  have hd1 : (upd H q (.tup [.int h, .str (lS ⟨dd, false⟩)])) d = some (.dT (tabT t)) := by rw [upd_ne hqd]; exact hd
  have hP1 : PlAt C (upd H q (.tup [.int h, .str (lS ⟨dd, false⟩)])) p l n R := hP.same (same_new hq)
  have hU1 : Upto [l, d] H (upd H q (.tup [.int h, .str (lS ⟨dd, false⟩)])) := Upto.of (same_new hq)
  have cont : ∀ (u : Nat) (H2 : Hp), u = (look t (h, dd)).getD v → PlAt C H2 p l n R → H2 d = some (.dT (tabT (setd t (h, dd) v))) → Upto [l, d] H H2 →
      spJoin C [.ref p, .int u, .int v] H2 (fun x H' => ∃ k, x = .bl k ∧ (if k = true then D.nx (σ.set 2 (some (.bl true))) H' else D.nx σ H')) Ex := by
    intro u H2 eu hP2 hd2 hU2
    have hu : u < n := by
      rw [eu]
      cases e : look t (h, dd) with
      | none => exact hv
      | some z => exact hl _ _ e
    refine ⟨p, l, n, u, v, R, rfl, hP2, hu, hv, fun H3 hP3 hU3 => ⟨_, rfl, ?_⟩⟩
    have hd3 : H3 d = some (.dT (tabT (setd t (h, dd) v))) := hU3 _ _ hd2 (by simp; exact hld.symm)
    have hU4 : Upto [l, d] H H3 := hU2.trans fun b o hb hn => hU3 b o hb fun z => hn (by simp at z; simp [z])
    have g := go H3 (by rw [← eu]; exact hP3) hd3 hU4
    rw [← eu] at g
    by_cases c : R u = R v
    · have e1 : decide (R u ≠ R v) = false := decide_eq_false (by simp [c])
      rw [e1, Bool.or_false] at g
      rw [e1]
      refine iteF ?_
      have e2 : σ.set 2 (some (.bl ch)) = σ := by
        apply List.ext_getElem?
        intro i
        by_cases hi : 2 = i
        · subst hi
          rw [s2, List.getElem?_set_self (List.getElem?_eq_some_iff.mp s2).1]
        · rw [List.getElem?_set_ne hi]
      rw [e2] at g
      exact g
    · have e1 : decide (R u ≠ R v) = true := decide_eq_true c
      rw [e1, Bool.or_true] at g
      rw [e1]
      exact iteT g
  refine ⟨_, sv, tabT t, keyT (h, dd), q, hd1, rfl, upd_same, ?_, ?_, ?_⟩
  · rw [tab_len]
    exact Nat.lt_trans ht (by decide)
  · intro u hu
    rw [valV_tab] at hu
    cases e : look t (h, dd) with
    | none => rw [e] at hu; simp at hu
    | some z =>
      rw [e] at hu
      simp at hu
      subst hu
      refine ⟨_, sv, ?_⟩
      refine cont z _ (by rw [e]; rfl) hP1 ?_ hU1
      rw [hd1]
      unfold setd
      rw [e]
  · intro hn2
    have e : look t (h, dd) = none := by
      rw [valV_tab] at hn2
      cases e : look t (h, dd) with
      | none => rfl
      | some z => rw [e] at hn2; simp at hn2
    refine ⟨_, sv, ?_⟩
    refine cont v _ (by rw [e]; rfl) ?_ ?_ ?_
    · exact hP1.upto (S := [d]) (upto_in (Upto.refl _ _) (by simp)) (by simpa using hpd) (by simpa using hld)
    · rw [upd_same, putK_tab e]
    · exact upto_in hU1 (by simp)
def spJoinOnce (K : PySem.W.Frag) (C : Addr) : Sp := fun vs H Q _ => ∃ (p l n a : Nat) (R : Nat → Nat) (W : List Way), vs = [.ref p, .ref a] ∧ PlAt C H p l n R ∧ WaysAt K H a W ∧ a ≠ l ∧ W.length ≤ 100000 ∧ (∀ w ∈ W, w.1 < n ∧ w.2.2 < n) ∧
  ∀ H', PlAt C H' p l n (pass R W).R → Upto [l] H H' → Q (.bl (pass R W).ch) H'
theorem ok_join_once (T : Top K mg) : FnOk P w K mg base CX0 3 T.d_join_once.f T.d_join_once.d ["places", "ways"] (spJoinOnce K T.C_Places) := by
  refine T.d_join_once.F.ok sc_join_once (fun vs H Q E h => ?_) (fun cdv A outer s H vs Q E hr h => ?_)
  · obtain ⟨p, l, n, a, R, W, rfl, _⟩ := h
    rfl
  · obtain ⟨p, l, n, a, R, W, rfl, hP, hW, hal, hlen, hlt, q⟩ := h
    have hu := hu_of hr
    refine ⟨_,
      (pss_cons (ps_set (i := 2) sc_join_once.nd rfl (Or.inl rfl) pe_bl)
      (pss_cons (ps_set (i := 3) sc_join_once.nd rfl (Or.inl rfl) pe_dnewT)
      (pss_cons (ps_set (i := 4) sc_join_once.nd rfl (Or.inl rfl) pe_dnewT)
      (pss_cons (ps_for PassesOwn.never rfl (pi_list (pv 1)) (pg_tup (by rfl) (pgs_cons (pg_name (i := 5) sc_join_once.nd rfl (Or.inl rfl)) (pgs_cons (pg_name (i := 6) sc_join_once.nd rfl (Or.inl rfl)) (pgs_cons (pg_name (i := 7) sc_join_once.nd rfl (Or.inl rfl)) pgs_nil))))
      (pss_cons (ps_set (i := 8) sc_join_once.nd rfl (Or.inl rfl) (pe_meth (pv 0) T.k_Places.cl T.m_Places_head.m (ok_Places_head T) (hr.mono (by decide)) T.m_Places_head.b .nil pass0 (pa_cons (pv 5) pa_nil)))
      (pss_cons (ps_set (i := 9) sc_join_once.nd rfl (Or.inl rfl) (pe_meth (pv 0) T.k_Places.cl T.m_Places_head.m (ok_Places_head T) (hr.mono (by decide)) T.m_Places_head.b .nil pass0 (pa_cons (pv 7) pa_nil)))
      (pss_cons (ps_if (pt_val (pe_meth (pv 0) T.k_Places.cl T.m_Places_join.m (ok_Places_join T) (hr.mono (by decide)) T.m_Places_join.b .nil pass0 (pa_cons (pe_dsetdT hu (pv 3) (pe_tup (pa_cons (pv 8) (pa_cons (pv 6) pa_nil))) (pv 9) ⟨rfl, rfl, rfl, rfl⟩) (pa_cons (pv 9) pa_nil))))
      (pss_one (ps_set (i := 2) sc_join_once.nd rfl (Or.inl rfl) pe_bl))
      pss_nil)
      (pss_cons (ps_set (i := 8) sc_join_once.nd rfl (Or.inl rfl) (pe_meth (pv 0) T.k_Places.cl T.m_Places_head.m (ok_Places_head T) (hr.mono (by decide)) T.m_Places_head.b .nil pass0 (pa_cons (pv 5) pa_nil)))
      (pss_cons (ps_set (i := 9) sc_join_once.nd rfl (Or.inl rfl) (pe_meth (pv 0) T.k_Places.cl T.m_Places_head.m (ok_Places_head T) (hr.mono (by decide)) T.m_Places_head.b .nil pass0 (pa_cons (pv 7) pa_nil)))
      (pss_one (ps_if (pt_val (pe_meth (pv 0) T.k_Places.cl T.m_Places_join.m (ok_Places_join T) (hr.mono (by decide)) T.m_Places_join.b .nil pass0 (pa_cons (pe_dsetdT hu (pv 4) (pe_tup (pa_cons (pv 9) (pa_cons (pv 6) pa_nil))) (pv 8) ⟨rfl, rfl, rfl, rfl⟩) (pa_cons (pv 8) pa_nil))))
      (pss_one (ps_set (i := 2) sc_join_once.nd rfl (Or.inl rfl) pe_bl))
      pss_nil))))))))
      (pss_one (ps_ret (pv 2)))))))
      , ?_⟩
    intro da hda db hdb
    have hdab : db ≠ da := fun z => by
      rw [z, upd_same] at hdb
      cases hdb
    have hdb0 : H db = none := by rw [upd_ne hdab] at hdb; exact hdb
    have s1 : Same H (upd (upd H da (.dT [])) db (.dT [])) := (same_new hda).trans (same_new hdb)
    obtain ⟨vs, hv, hD⟩ := id hW
    have hvl : vs.length = W.length := by rw [dp_len hD, List.length_map]
    have hml : Mut (H l) := by
      obtain ⟨_, _, _, _, _, g, _⟩ := hP
      rw [g]
      exact True.intro
    refine ⟨_, rfl, a, rfl, ⟨_, SqL.of (s1 _ _ hv)⟩, for_dl (K := K) (xs := vs) (ds := W) hvl (fun pre σ H' => ∃ v5 v6 v7 v8 v9, σ = [some (.ref p), some (.ref a), some (.bl (pre.foldl turn ⟨false, [], [], R⟩).ch), some (.ref da), some (.ref db), v5, v6, v7, v8, v9] ∧
        PlAt T.C_Places H' p l n (pre.foldl turn ⟨false, [], [], R⟩).R ∧ H' da = some (.dT (tabT (pre.foldl turn ⟨false, [], [], R⟩).ah)) ∧ H' db = some (.dT (tabT (pre.foldl turn ⟨false, [], [], R⟩).bh)) ∧ Upto [l] H H' ∧
        (∀ k u, look (pre.foldl turn ⟨false, [], [], R⟩).ah k = some u → u < n) ∧ (∀ k u, look (pre.foldl turn ⟨false, [], [], R⟩).bh k = some u → u < n))
      ⟨none, none, none, none, none, rfl, hP.same s1, by rw [upd_ne hdab.symm]; exact upd_same, upd_same, Upto.of s1, by intro k u h; simp [look] at h, by intro k u h; simp [look] at h⟩ ?_ ?_ ?_⟩
    · rintro pre σ H' ⟨_, _, _, _, _, _, _, _, _, hU, _⟩
      exact SqL.of (hU _ _ hv (by simpa using hal))
    · rintro pre w post x σ H' e hx ⟨v5, v6, v7, v8, v9, rfl, hP', hA, hB, hU, bA, bB⟩
      have hkt : KeepT H H' := keep_upto hU (by intro b hb; rw [List.mem_singleton.mp hb]; exact hml)
      obtain ⟨t, rfl, ht⟩ := way_at (dpAll_keep hkt hD (flat_ways W)) e hx
      have hw := hlt w (by rw [e]; simp)
      have hpre : pre.length < 100000 := by
        have := congrArg List.length e
        simp at this
        omega
      obtain ⟨len1, len2⟩ := pass_len pre ⟨false, [], [], R⟩
      simp only [List.length_nil, Nat.zero_add] at len1 len2
      rw [List.foldl_append]
      generalize hs : pre.foldl turn ⟨false, [], [], R⟩ = st at *
      obtain ⟨p0, d0, q0⟩ := w
      simp only at hw ht
      refine ⟨t, _, rfl, ht, rfl, _, _, rfl, _, _, rfl, _, _, rfl, rfl, ?_⟩
      have ins : ∀ {H2 : Hp} {R2 : Nat → Nat}, PlAt T.C_Places H2 p l n R2 → ∃ dx, H2 p = some (.ins T.C_Places dx [("heads", .ref l)]) := fun h => let ⟨_, _, dx, _, g, _⟩ := h; ⟨dx, g⟩
      have lne : l ≠ da ∧ l ≠ db := by
        obtain ⟨_, _, _, _, _, g, _⟩ := hP'
        exact ⟨ne_of g hA (by intro z; cases z), ne_of g hB (by intro z; cases z)⟩
      have ua : ∀ {H1 H2 : Hp} {o : HO}, Upto [l] H1 H2 → H1 da = some o → H2 da = some o := fun u h => u _ _ h (by simpa using lne.1.symm)
      have ub : ∀ {H1 H2 : Hp} {o : HO}, Upto [l] H1 H2 → H1 db = some o → H2 db = some o := fun u h => u _ _ h (by simpa using lne.2.symm)
      -- one, two
      obtain ⟨x1, y1⟩ := ins hP'
      refine ⟨_, rfl, p, x1, _, rfl, y1, rfl, _, rfl, p, l, n, p0, st.R, rfl, hP', hw.1, fun H1 hP1 u1 => ?_⟩
      obtain ⟨x2, y2⟩ := ins hP1
      refine ⟨_, rfl, p, x2, _, rfl, y2, rfl, _, rfl, p, l, n, q0, st.R, rfl, hP1, hw.2, fun H2 hP2 u2 => ?_⟩
      have r0 := hP2.1
      have lp := r0.le p0
      have lq := r0.le q0
      refine rd_meet (n := n) (R := st.R) (t := st.ah) (h := st.R p0) (v := st.R q0) (dd := d0) (ch := st.ch) rfl rfl rfl rfl rfl rfl hP2 (ua u2 (ua u1 hA)) (by omega) (by omega) bA (fun H3 hP3 hA3 u3 => ?_)
      have hB3 : H3 db = some (.dT (tabT st.bh)) := u3 _ _ (ub u2 (ub u1 hB)) (by simp; exact ⟨lne.2.symm, hdab⟩)
      generalize hc1 : (st.ch || decide (st.R ((look st.ah (st.R p0, d0)).getD (st.R q0)) ≠ st.R (st.R q0))) = c1 at *
      have bA3 : ∀ k u, look (setd st.ah (st.R p0, d0) (st.R q0)) k = some u → u < n := by
        intro k u hk
        rw [look_setd] at hk
        split at hk
        · cases e : look st.ah (st.R p0, d0) with
          | none =>
            rw [e] at hk
            simp at hk
            omega
          | some z =>
            rw [e] at hk
            simp at hk
            subst hk
            exact bA _ _ e
        · exact bA _ _ hk
      have ul3 : Upto [l, da] H2 H3 := u3
      -- again
      obtain ⟨x3, y3⟩ := ins hP3
      refine ⟨_, rfl, p, x3, _, rfl, y3, rfl, _, rfl, p, l, n, p0, _, rfl, hP3, hw.1, fun H4 hP4 u4 => ?_⟩
      obtain ⟨x4, y4⟩ := ins hP4
      refine ⟨_, rfl, p, x4, _, rfl, y4, rfl, _, rfl, p, l, n, q0, _, rfl, hP4, hw.2, fun H5 hP5 u5 => ?_⟩
      generalize hR1 : joinR st.R ((look st.ah (st.R p0, d0)).getD (st.R q0)) (st.R q0) = R1 at *
      have r1 := hP5.1
      have mp := r1.le p0
      have mq := r1.le q0
      refine rd_meet (n := n) (R := R1) (t := st.bh) (h := R1 q0) (v := R1 p0) (dd := d0) (ch := c1) rfl rfl rfl rfl rfl rfl hP5 (ub u5 (ub u4 hB3)) (by omega) (by omega) bB (fun H6 hP6 hB6 u6 => ?_)
      have hA6 : H6 da = some (.dT (tabT (setd st.ah (st.R p0, d0) (st.R q0)))) := u6 _ _ (ua u5 (ua u4 hA3)) (by simp; exact ⟨lne.1.symm, fun z => hdab z.symm⟩)
      have eT : turn st (p0, d0, q0) = ⟨c1 || decide (R1 ((look st.bh (R1 q0, d0)).getD (R1 p0)) ≠ R1 (R1 p0)), setd st.ah (st.R p0, d0) (st.R q0), setd st.bh (R1 q0, d0) (R1 p0), joinR R1 ((look st.bh (R1 q0, d0)).getD (R1 p0)) (R1 p0)⟩ := by
        simp only [turn, hR1, hc1]
      have big : ∀ {A1 A2 : Hp}, Upto [l, da] A1 A2 ∨ Upto [l, db] A1 A2 ∨ Upto [l] A1 A2 → Upto [l] H A1 → Upto [l] H A2 := by
        intro A1 A2 h1 h2 b o hb hn
        have hbl : b ≠ l := by simpa using hn
        have hbd : b ≠ da := ne_of_none hb hda
        have hbd2 : b ≠ db := ne_of_none hb hdb0
        have := h2 b o hb hn
        rcases h1 with h1 | h1 | h1
        · exact h1 _ _ this (by simp; exact ⟨hbl, hbd⟩)
        · exact h1 _ _ this (by simp; exact ⟨hbl, hbd2⟩)
        · exact h1 _ _ this hn
      have uF : Upto [l] H H6 := big (.inr (.inl u6)) (big (.inr (.inr u5)) (big (.inr (.inr u4)) (big (.inl ul3) (big (.inr (.inr u2)) (big (.inr (.inr u1)) hU)))))
      simp only [List.foldl_cons, List.foldl_nil, eT]
      refine ⟨_, _, _, _, _, rfl, hP6, hA6, hB6, uF, bA3, ?_⟩
      intro k u hk
      rw [look_setd] at hk
      split at hk
      · cases e : look st.bh (R1 q0, d0) with
        | none =>
          rw [e] at hk
          simp at hk
          omega
        | some z =>
          rw [e] at hk
          simp at hk
          subst hk
          exact bB _ _ e
      · exact bB _ _ hk
    · rintro σ H' ⟨v5, v6, v7, v8, v9, rfl, hP', hA, hB, hU, _, _⟩
      exact ⟨_, rfl, q H' hP' hU⟩
end
end Rb
/-! The unlike ways between heads; the places joined. -/
namespace Rb
set_option linter.all false
set_option maxRecDepth 100000
set_option maxHeartbeats 4000000
open PySem PySem.Spec PyProof.Rows L2
def keyW (w : Way) : List L2.Key := [.inl w.1, .inr (lS ⟨w.2.1, false⟩), .inl w.2.2]
def hwT (acc : List Way) : List (List L2.Key × V) := acc.map fun w => (keyW w, V.bl true)
theorem keyW_inj {w v : Way} (h : keyW w = keyW v) : w = v := by
  obtain ⟨a, d, b⟩ := w
  obtain ⟨a', d', b'⟩ := v
  simp only [keyW, List.cons.injEq, Sum.inl.injEq, Sum.inr.injEq, and_true] at h
  have h1 : a = a' := by omega
  have h2 := lS_inj h.2.1
  simp at h2
  have h3 : b = b' := by omega
  rw [h1, h2, h3]
theorem valV_hw : ∀ (acc : List Way) (w : Way), valV (hwT acc) (keyW w) = if w ∈ acc then some (.bl true) else none
  | [], _ => rfl
  | v :: acc, w => by
    have ih := valV_hw acc w
    unfold hwT at *
    rw [List.map_cons]
    by_cases h : v = w
    · rw [valV_pos (by rw [h]), if_pos (by rw [h]; simp)]
    · rw [valV_neg (fun z => h (keyW_inj z)), ih]
      have : (w ∈ v :: acc) ↔ w ∈ acc := by
        rw [List.mem_cons]
        exact ⟨fun z => z.resolve_left fun z => h z.symm, .inr⟩
      simp only [this]
theorem putK_hw (acc : List Way) (w : Way) : putK (hwT acc) (keyW w) (.bl true) = hwT (addNew acc w) := by
  unfold addNew
  by_cases h : w ∈ acc
  · rw [if_pos h]
    unfold putK
    rw [valV_any, valV_hw, if_pos h]
    simp only [Option.isSome_some, if_true]
    unfold hwT
    rw [List.map_map]
    apply List.map_congr_left
    intro v _
    simp only [Function.comp]
    split <;> rfl
  · rw [if_neg h, putK_new _ (by rw [valV_hw, if_neg h])]
    simp [hwT]
theorem addNew_len : ∀ (ws acc : List Way), (ws.foldl addNew acc).length ≤ acc.length + ws.length
  | [], acc => by simp
  | w :: ws, acc => by
    have h1 := addNew_len ws (addNew acc w)
    have h2 : (addNew acc w).length ≤ acc.length + 1 := by
      unfold addNew
      split <;> simp
    simp only [List.foldl_cons, List.length_cons]
    omega
theorem headWays_len (R : Nat → Nat) (W : List Way) : (headWays R W).length ≤ W.length := by
  have := addNew_len (W.map (imgW R)) []
  simpa [headWays] using this
theorem keys_dp {K : PySem.W.Frag} {H : Hp} : ∀ {acc : List Way} {bs : List Addr}, IsKeys H (hwT acc) bs → DpAll K H (bs.map V.ref) (acc.map encW)
  | [], _, h => by
    cases h
    exact .nil
  | w :: acc, _, h => by
    cases h with
    | cons h1 h2 =>
      refine .cons ?_ (keys_dp h2)
      exact dp_of3 (SqT.of h1)
section
variable {P : Program} {w : World} {K : PySem.W.Frag} {mg : Str → Option Value} {base : Heap}
def spHeadWays (K : PySem.W.Frag) (C : Addr) : Sp := fun vs H Q _ => ∃ (p l n a : Nat) (R : Nat → Nat) (W : List Way), vs = [.ref p, .ref a] ∧ PlAt C H p l n R ∧ WaysAt K H a W ∧ a ≠ l ∧ W.length ≤ 100000 ∧ (∀ w ∈ W, w.1 < n ∧ w.2.2 < n) ∧
  ∀ q H', H q = none → PlAt C H' p l n R → Upto [l] H H' → WaysAt K H' q (headWays R W) → Q (.ref q) H'
theorem ok_head_ways (T : Top K mg) : FnOk P w K mg base CX0 2 T.d_head_ways.f T.d_head_ways.d ["places", "ways"] (spHeadWays K T.C_Places) := by
  refine T.d_head_ways.F.ok sc_head_ways (fun vs H Q E h => ?_) (fun cdv A outer s H vs Q E hr h => ?_)
  · obtain ⟨p, l, n, a, R, W, rfl, _⟩ := h
    rfl
  · obtain ⟨p, l, n, a, R, W, rfl, hP, hW, hal, hlen, hlt, q⟩ := h
    have hu := hu_of hr
    refine ⟨_,
      (pss_cons (ps_set (i := 2) sc_head_ways.nd rfl (Or.inl rfl) pe_dnewT)
      (pss_cons (ps_for PassesOwn.never rfl (pi_list (pv 1)) (pg_tup (by rfl) (pgs_cons (pg_name (i := 3) sc_head_ways.nd rfl (Or.inl rfl)) (pgs_cons (pg_name (i := 4) sc_head_ways.nd rfl (Or.inl rfl)) (pgs_cons (pg_name (i := 5) sc_head_ways.nd rfl (Or.inl rfl)) pgs_nil))))
      (pss_one (ps_dput hu (pv 2) (pe_tup (pa_cons (pe_meth (pv 0) T.k_Places.cl T.m_Places_head.m (ok_Places_head T) (hr.mono (by decide)) T.m_Places_head.b .nil pass0 (pa_cons (pv 3) pa_nil)) (pa_cons (pv 4) (pa_cons (pe_meth (pv 0) T.k_Places.cl T.m_Places_head.m (ok_Places_head T) (hr.mono (by decide)) T.m_Places_head.b .nil pass0 (pa_cons (pv 5) pa_nil)) pa_nil)))) pe_bl rfl)))
      (pss_one (ps_ret (pe_callTy (call_list_dT rfl) (by rfl) T.z_list (by decide +kernel) (pa_cons (pv 2) pa_nil))))))
      , ?_⟩
    intro df hdf
    have s1 : Same H (upd H df (.dT [])) := same_new hdf
    obtain ⟨vs, hv, hD⟩ := id hW
    have hvl : vs.length = W.length := by rw [dp_len hD, List.length_map]
    have hml : Mut (H l) := by
      obtain ⟨_, _, _, _, _, g, _⟩ := hP
      rw [g]
      exact True.intro
    have ins : ∀ {H2 : Hp} {R2 : Nat → Nat}, PlAt T.C_Places H2 p l n R2 → ∃ dx, H2 p = some (.ins T.C_Places dx [("heads", .ref l)]) := fun h => let ⟨_, _, dx, _, g, _⟩ := h; ⟨dx, g⟩
    refine ⟨_, rfl, a, rfl, ⟨_, SqL.of (s1 _ _ hv)⟩, for_dl (K := K) (xs := vs) (ds := W) hvl (fun pre σ H' => ∃ v3 v4 v5, σ = [some (.ref p), some (.ref a), some (.ref df), v3, v4, v5] ∧
        PlAt T.C_Places H' p l n R ∧ H' df = some (.dT (hwT ((pre.map (imgW R)).foldl addNew []))) ∧ Upto [l] H H')
      ⟨none, none, none, rfl, hP.same s1, upd_same, Upto.of s1⟩ ?_ ?_ ?_⟩
    · rintro pre σ H' ⟨_, _, _, _, _, _, hU⟩
      exact SqL.of (hU _ _ hv (by simpa using hal))
    · rintro pre w post x σ H' e hx ⟨v3, v4, v5, rfl, hP', hF, hU⟩
      have hkt : KeepT H H' := keep_upto hU (by intro b hb; rw [List.mem_singleton.mp hb]; exact hml)
      obtain ⟨t, rfl, ht⟩ := way_at (dpAll_keep hkt hD (flat_ways W)) e hx
      have hw := hlt w (by rw [e]; simp)
      have hpre : pre.length < 100000 := by
        have := congrArg List.length e
        simp at this
        omega
      obtain ⟨p0, d0, q0⟩ := w
      simp only at hw ht
      have lne : l ≠ df := by
        obtain ⟨_, _, _, _, _, g, _⟩ := hP'
        exact ne_of g hF (by intro z; cases z)
      refine ⟨t, _, rfl, ht, rfl, _, _, rfl, _, _, rfl, _, _, rfl, rfl, ?_⟩
      obtain ⟨x1, y1⟩ := ins hP'
      refine ⟨_, rfl, _, rfl, p, x1, _, rfl, y1, rfl, _, rfl, p, l, n, p0, R, rfl, hP', hw.1, fun H1 hP1 u1 => ?_⟩
      obtain ⟨x2, y2⟩ := ins hP1
      refine ⟨_, rfl, _, rfl, p, x2, _, rfl, y2, rfl, _, rfl, p, l, n, q0, R, rfl, hP1, hw.2, fun H2 hP2 u2 => ?_⟩
      have hF2 : H2 df = some (.dT (hwT ((pre.map (imgW R)).foldl addNew []))) := u2 _ _ (u1 _ _ hF (by simpa using lne.symm)) (by simpa using lne.symm)
      refine ⟨(by show 3 ≤ sizeLine; decide), fun k hk => ?_⟩
      have hkf : df ≠ k := ne_of_none hF2 hk
      have sK : Same H2 (upd H2 k (.tup [.int (R p0 : Nat), .str (lS ⟨d0, false⟩), .int (R q0 : Nat)])) := same_new hk
      have hlen2 : (hwT ((pre.map (imgW R)).foldl addNew [])).length < sizeLine := by
        unfold hwT
        rw [List.length_map]
        have := addNew_len (pre.map (imgW R)) []
        simp at this
        exact sz100 (by omega)
      refine ⟨df, _, rfl, DPut.t (k := keyW (R p0, d0, R q0)) (sK _ _ hF2) upd_same hlen2, ?_⟩
      rw [putK_hw]
      have e2 : (((pre ++ [(p0, d0, q0)]).map (imgW R)).foldl addNew []) = addNew ((pre.map (imgW R)).foldl addNew []) (R p0, d0, R q0) := by
        rw [List.map_append, List.foldl_append]
        rfl
      refine ⟨_, _, _, rfl, ?_, by rw [upd_same, e2], ?_⟩
      · refine (hP2.same sK).upto (S := [df]) (upto_in (Upto.refl _ _) (by simp)) ?_ (by simpa using lne)
        have hpd : p ≠ df := ne_of y2 (u1 _ _ hF (by simpa using lne.symm)) (by intro z; cases z)
        simpa using hpd
      · exact upto_new ((hU.trans u1).trans u2 |>.trans (Upto.of sK)) hdf
    · rintro σ H' ⟨v3, v4, v5, rfl, hP', hF, hU⟩
      refine ⟨_, rfl, df, _, rfl, .inl hF, fun r bs hr hk => ?_⟩
      refine q r _ ?_ (hP'.same (same_new hr)) (hU.trans (Upto.of (same_new hr))) ⟨_, upd_same, ?_⟩
      · refine upto_free hU ?_ hr
        intro b hb _
        rw [List.mem_singleton.mp hb]
        obtain ⟨_, _, _, _, _, g, _⟩ := hP'
        rw [g]
        simp
      · exact dpAll_same (same_new hr) (keys_dp hk)
/-- a pass that joins leaves fewer heads -/
def allG : List Row := (List.finRange 26).map fun d => [⟨d, false⟩]
theorem lab_all (W : List Way) : LabW allG (fun _ => []) W := by
  intro p d q _
  show Gen allG ([] ++ [⟨d, false⟩] ++ [])
  exact Gen.mem (List.mem_map.mpr ⟨d, List.mem_finRange d, rfl⟩)
theorem pass_fewer {R : Nat → Nat} {W : List Way} {n : Nat} (r : Roots R) (hb : ∀ w ∈ W, w.1 < n ∧ w.2.2 < n) (h : (pass R W).ch = true) : heads (pass R W).R n < heads R n :=
  (pass_ok (G := allG) (f := fun _ => []) r (fun _ => Cos.refl _ _) (lab_all W) hb).fewer h
def spJoined (K : PySem.W.Frag) (C : Addr) : Sp := fun vs H Q _ => ∃ (n a : Nat) (A : List Arr), vs = [.int n, .ref a] ∧ ArrsAt K H a A ∧ A.length ≤ 100000 ∧ n ≤ 100000 ∧ (∀ w ∈ A, w.1 < n ∧ w.2.2 < n) ∧
  ∀ p l S H', H p = none → H l = none → PlAt C H' p l n S → Same H H' → Joined id (fwd A) S → Q (.ref p) H'
theorem ok_joined_places (T : Top K mg) : FnOk P w K mg base CX0 4 T.d_joined_places.f T.d_joined_places.d ["many", "arrows"] (spJoined K T.C_Places) := by
  refine T.d_joined_places.F.ok sc_joined_places (fun vs H Q E h => ?_) (fun cdv A outer s H vs Q E hr h => ?_)
  · obtain ⟨n, a, A, rfl, _⟩ := h
    rfl
  · obtain ⟨n, a, A, rfl, hA, hlen, hn, hlt, q⟩ := h
    have hu := hu_of hr
    refine ⟨_,
      (pss_cons (ps_set (i := 2) sc_joined_places.nd rfl (Or.inl rfl) (pe_make T.k_Places.made (ok_Places___init__ T) (hr.mono (by decide)) (by rfl) T.k_Places.g T.m_Places___init__.b .nil pass0 (pa_cons (pv 0) pa_nil)))
      (pss_cons (ps_for PassesOwn.never rfl (pi_list (pv 1)) (pg_tup (by rfl) (pgs_cons (pg_name (i := 3) sc_joined_places.nd rfl (Or.inl rfl)) (pgs_cons (pg_name (i := 4) sc_joined_places.nd rfl (Or.inl rfl)) (pgs_cons (pg_name (i := 5) sc_joined_places.nd rfl (Or.inl rfl)) pgs_nil))))
      (pss_one (ps_if (pt_cmpR op_eq (pv 4) pe_str (nomark _))
      (pss_one (ps_expr (pe_meth (pv 2) T.k_Places.cl T.m_Places_join.m (ok_Places_join T) (hr.mono (by decide)) T.m_Places_join.b .nil pass0 (pa_cons (pv 3) (pa_cons (pv 5) pa_nil)))))
      pss_nil)))
      (pss_cons (ps_set (i := 6) sc_joined_places.nd rfl (Or.inl rfl) (pe_call (ok_forward_ways T) (hr.mono (by decide)) (by rfl) T.d_forward_ways.g T.d_forward_ways.F.kp T.d_forward_ways.b .nil pass0 (pa_cons (pv 1) pa_nil)))
      (pss_cons (ps_while PassesOwn.never (pt_val (pe_call (ok_join_once T) (hr.mono (by decide)) (by rfl) T.d_join_once.g T.d_join_once.F.kp T.d_join_once.b .nil pass0 (pa_cons (pv 2) (pa_cons (pv 6) pa_nil))))
      (pss_one (ps_set (i := 6) sc_joined_places.nd rfl (Or.inl rfl) (pe_call (ok_head_ways T) (hr.mono (by decide)) (by rfl) T.d_head_ways.g T.d_head_ways.F.kp T.d_head_ways.b .nil pass0 (pa_cons (pv 2) (pa_cons (pv 6) pa_nil))))))
      (pss_one (ps_ret (pv 2)))))))
      , ?_⟩
    refine ⟨_, rfl, fun p dx hp hdx hne => ?_⟩
    have s1 : Same H (upd (upd H dx (.own p)) p (.ins T.C_Places dx [])) := (same_new hdx).trans (same_new (by rw [upd_ne hne.symm]; exact hp))
    refine ⟨p, dx, n, rfl, hn, upd_same, fun l H1 hl hP u1 => ⟨rfl, ?_⟩⟩
    have hl0 : H l = none := s1.free hl
    have s2 : Same H H1 := fun b o hb => u1 _ _ (s1 _ _ hb) (by simpa using ne_of_none hb hp)
    obtain ⟨vs, hv, hD⟩ := id hA
    have hvl : vs.length = A.length := by rw [dp_len hD, List.length_map]
    refine ⟨_, rfl, a, rfl, ⟨_, SqL.of (s2 _ _ hv)⟩, for_dl (K := K) (xs := vs) (ds := A) hvl (fun pre σ H' => ∃ v3 v4 v5 v6, σ = [some (.int n), some (.ref a), some (.ref p), v3, v4, v5, v6] ∧ H' = H1) ⟨none, none, none, none, rfl, rfl⟩ ?_ ?_ ?_⟩
    · rintro pre σ H' ⟨_, _, _, _, _, rfl⟩
      exact SqL.of (s2 _ _ hv)
    · rintro pre x post v σ H' e hx ⟨v3, v4, v5, v6, rfl, rfl⟩
      obtain ⟨t, rfl, ht⟩ := arr_at (dpAll_same s2 hD) e hx
      refine ⟨t, _, rfl, ht, rfl, _, _, rfl, _, _, rfl, _, _, rfl, rfl, ?_⟩
      refine ⟨_, rfl, rfl, _, rfl, ?_⟩
      rw [decide_eq_false (lS_ne x.2.1)]
      exact iteF ⟨_, _, _, _, rfl, rfl⟩
    · rintro σ H' ⟨v3, v4, v5, v6, rfl, rfl⟩
      refine ⟨_, rfl, a, A, rfl, hA.same s2, hlen, fun aw H2 haw s3 hW => ?_⟩
      have hlH : H' l ≠ none := by
        obtain ⟨_, _, _, _, _, g, _⟩ := hP
        rw [g]
        simp
      have hbnd : ∀ w ∈ fwd A, w.1 < n ∧ w.2.2 < n := by
        intro w hw
        unfold fwd at hw
        obtain ⟨x, hx, rfl⟩ := List.mem_map.mp hw
        have := hlt x hx
        unfold fwd1
        split
        · exact ⟨this.2, this.1⟩
        · exact this
      refine while_w (fun m σ H3 => ∃ aw W R, σ = [some (.int n), some (.ref a), some (.ref p), v3, v4, v5, some (.ref aw)] ∧ m = heads R n ∧ PlAt T.C_Places H3 p l n R ∧ WaysAt K H3 aw W ∧ aw ≠ l ∧ W.length ≤ 100000 ∧ (∀ w ∈ W, w.1 < n ∧ w.2.2 < n) ∧ Same H H3 ∧ ∀ S, Joined R W S → Joined id (fwd A) S) (heads id n) ?_ ?_
      · refine ⟨aw, fwd A, id, rfl, rfl, hP.same s3, hW, ?_, by unfold fwd; rw [List.length_map]; exact hlen, hbnd, s2.trans s3, fun S h => h⟩
        rintro rfl
        exact hlH haw
      · rintro m σ H3 ⟨aw, W, R, rfl, rfl, hP3, hW3, hal, hwl, hwb, s4, hJ⟩
        have hml : Mut (H3 l) := by
          obtain ⟨_, _, _, _, _, g, _⟩ := hP3
          rw [g]
          exact True.intro
        refine ⟨_, rfl, _, rfl, p, l, n, aw, R, W, rfl, hP3, hW3, hal, hwl, hwb, fun H4 hP4 u4 => ⟨_, rfl, ?_⟩⟩
        have k4 : KeepT H3 H4 := keep_upto u4 (by intro b hb; rw [List.mem_singleton.mp hb]; exact hml)
        have hW4 : WaysAt K H4 aw W := hW3.upto u4 k4 (by simpa using hal)
        have sm : ∀ {H5 : Hp}, Upto [l] H3 H5 → Same H H5 := fun u b o hb => u _ _ (s4 _ _ hb) (by simpa using ne_of_none hb hl0)
        cases hc : (pass R W).ch with
        | false =>
          refine iteF ?_
          refine ⟨_, rfl, q p l _ H4 hp hl0 hP4 (sm u4) (hJ _ (.done hc))⟩
        | true =>
          refine iteT ?_
          refine ⟨_, fun _ _ h => h, ?_⟩
          refine ⟨_, rfl, _, rfl, p, l, n, aw, _, W, rfl, hP4, hW4, hal, hwl, hwb, fun q2 H5 hq2 hP5 u5 hW5 => ?_⟩
          refine ⟨_, pass_fewer hP3.1 hwb hc, q2, headWays (pass R W).R W, (pass R W).R, rfl, rfl, hP5, hW5, ?_, Nat.le_trans (headWays_len _ _) hwl, head_lt hP4.1 hwb, sm (u4.trans u5), fun S h => hJ S (.more hc h)⟩
          rintro rfl
          obtain ⟨_, _, _, _, _, g, _⟩ := hP4
          rw [g] at hq2
          cases hq2
end
end Rb
/-! Steps; what hangs together; tails. -/
namespace Rb
set_option linter.all false
set_option maxRecDepth 100000
set_option maxHeartbeats 4000000
open PySem PySem.Spec PyProof.Rows L2
def keyL (p : Nat) (x : Lt) : List L2.Key := [.inl p, .inr (lS x)]
theorem keyL_inj {p q : Nat} {x y : Lt} (h : keyL p x = keyL q y) : p = q ∧ x = y := by
  simp only [keyL, List.cons.injEq, Sum.inl.injEq, Sum.inr.injEq, and_true] at h
  exact ⟨by omega, lS_inj h.2⟩
/-- the dict's pairs tell the steps -/
def Fk (kvs : List (List L2.Key × V)) (δ : Nat → Lt → Option Nat) : Prop := ∀ p x, valV kvs (keyL p x) = (δ p x).map fun q : Nat => V.int q
theorem Fk.put {kvs : List (List L2.Key × V)} {δ : Nat → Lt → Option Nat} (h : Fk kvs δ) (p : Nat) (x : Lt) (q : Nat) : Fk (putK kvs (keyL p x) (.int q)) (put2 δ p x q) := by
  intro p' x'
  rw [valV_put]
  unfold put2
  by_cases e : p' = p ∧ x' = x
  · obtain ⟨e1, e2⟩ := e
    subst e1; subst e2
    rw [if_pos rfl, if_pos ⟨rfl, rfl⟩]
    rfl
  · rw [if_neg (fun z => e (keyL_inj z)), if_neg e, h]
theorem sz1M {n : Nat} (h : n ≤ 1000000) : n < sizeLine := Nat.lt_of_le_of_lt h (by decide)
theorem dec_nat (a b : Nat) : decide (V.int (a : Int) = V.int (b : Int)) = decide (a = b) := by
  by_cases h : a = b
  · simp [h]
  · have : ¬ ((a : Int) = b) := by omega
    simp [h, this]
section
variable {P : Program} {w : World} {K : PySem.W.Frag} {mg : Str → Option Value} {base : Heap}
def spSteps (K : PySem.W.Frag) : Sp := fun vs H Q _ => ∃ (a : Addr) (W : List Way), vs = [.ref a] ∧ WaysIn K H a W ∧ W.length ≤ 100000 ∧
  ∀ p kvs H', H p = none → Same H H' → H' p = some (.dT kvs) → Fk kvs (stepsD W) → kvs.length ≤ 2 * W.length → Q (.ref p) H'
theorem ok_steps_of (T : Top K mg) : FnOk P w K mg base CX0 2 T.d_steps_of.f T.d_steps_of.d ["ways"] (spSteps K) := by
  refine T.d_steps_of.F.ok sc_steps_of (fun vs H Q E h => ?_) (fun cdv A outer s H vs Q E hr h => ?_)
  · obtain ⟨a, W, rfl, _⟩ := h
    rfl
  · obtain ⟨a, W, rfl, ⟨xs, hv, hD⟩, hlen, q⟩ := h
    have hu := hu_of hr
    refine ⟨_,
      (pss_cons (ps_set (i := 1) sc_steps_of.nd rfl (Or.inl rfl) pe_dnewT)
      (pss_cons (ps_for PassesOwn.never rfl (pi_seq (pv 0)) (pg_tup (by rfl) (pgs_cons (pg_name (i := 2) sc_steps_of.nd rfl (Or.inl rfl)) (pgs_cons (pg_name (i := 3) sc_steps_of.nd rfl (Or.inl rfl)) (pgs_cons (pg_name (i := 4) sc_steps_of.nd rfl (Or.inl rfl)) pgs_nil))))
      (pss_cons (ps_dput hu (pv 1) (pe_tup (pa_cons (pv 2) (pa_cons (pv 3) pa_nil))) (pv 4) rfl)
      (pss_one (ps_dput hu (pv 1) (pe_tup (pa_cons (pv 4) (pa_cons (pe_call (ok_undoing_of T) (hr.mono (by decide)) (by rfl) T.d_undoing_of.g T.d_undoing_of.F.kp T.d_undoing_of.b .nil pass0 (pa_cons (pv 3) pa_nil)) pa_nil))) (pv 2) rfl))))
      (pss_one (ps_ret (pv 1)))))
      , ?_⟩
    intro d hd
    have s1 : Same H (upd H d (.dT [])) := same_new hd
    have hvl : xs.length = W.length := by rw [dp_len hD, List.length_map]
    refine ⟨_, rfl, a, rfl, for_seq (K := K) (xs := xs) (ds := W) hvl (fun pre σ H' => ∃ v2 v3 v4 kvs, σ = [some (.ref a), some (.ref d), v2, v3, v4] ∧ Same H H' ∧ H' d = some (.dT kvs) ∧ Fk kvs (stepsD pre) ∧ kvs.length ≤ 2 * pre.length)
      ⟨none, none, none, [], rfl, s1, upd_same, fun p x => rfl, by simp⟩ ?_ ?_ ?_⟩
    · rcases hv with h | h
      · refine .inl ?_
        rintro pre σ H' ⟨_, _, _, _, _, s2, _⟩
        exact SqL.of (s2 _ _ h)
      · refine .inr ?_
        rintro pre σ H' ⟨_, _, _, _, _, s2, _⟩
        exact SqT.of (s2 _ _ h)
    · rintro pre w post x σ H' e hx ⟨v2, v3, v4, kvs, rfl, s2, hd2, hF, hl⟩
      obtain ⟨t, rfl, ht⟩ := way_at (dpAll_same s2 hD) e hx
      have hpre : pre.length < 100000 := by
        have := congrArg List.length e
        simp at this
        omega
      obtain ⟨p0, d0, q0⟩ := w
      simp only at ht
      refine ⟨t, _, rfl, ht, rfl, _, _, rfl, _, _, rfl, _, _, rfl, rfl, ?_⟩
      refine ⟨_, rfl, _, rfl, _, rfl, _, rfl, (by show 2 ≤ sizeLine; decide), fun k hk => ?_⟩
      have hdk : d ≠ k := ne_of_none hd2 hk
      refine ⟨d, _, rfl, DPut.t (k := keyL p0 ⟨d0, false⟩) (same_new hk _ _ hd2) upd_same (sz1M (by omega)), ?_⟩
      have s3 : Same H (upd (upd H' k (.tup [.int p0, .str (lS ⟨d0, false⟩)])) d (.dT (putK kvs (keyL p0 ⟨d0, false⟩) (.int q0)))) := same_mut (s2.trans (same_new hk)) hd
      have l3 := length_putK kvs (keyL p0 ⟨d0, false⟩) (V.int q0)
      refine ⟨_, rfl, _, rfl, _, rfl, _, rfl, [⟨d0, false⟩], rfl, by simp, (by show 2 ≤ sizeLine; decide), fun k2 hk2 => ?_⟩
      have hdk2 : d ≠ k2 := ne_of_none upd_same hk2
      have eu : rS ([(⟨d0, false⟩ : Lt)].map Lt.inv) = lS ⟨d0, true⟩ := rfl
      rw [eu]
      refine ⟨d, _, rfl, DPut.t (k := keyL q0 ⟨d0, true⟩) (same_new hk2 _ _ upd_same) upd_same (sz1M (by omega)), ?_⟩
      have l4 := length_putK (putK kvs (keyL p0 ⟨d0, false⟩) (.int q0)) (keyL q0 ⟨d0, true⟩) (V.int p0)
      refine ⟨_, _, _, _, rfl, same_mut (s3.trans (same_new hk2)) hd, upd_same, ?_, by rw [List.length_append]; simp only [List.length_cons, List.length_nil]; omega⟩
      rw [stepsD_snoc]
      exact (hF.put p0 ⟨d0, false⟩ q0).put q0 ⟨d0, true⟩ p0
    · rintro σ H' ⟨v2, v3, v4, kvs, rfl, s2, hd2, hF, hkl⟩
      exact ⟨_, rfl, q d kvs H' hd s2 hd2 hF hkl⟩
def spTail (K : PySem.W.Frag) : Sp := fun vs H Q _ => ∃ (e t b : Nat) (kvs : List (L2.Key × V)) (W : List Way) (w : Way), vs = [.ref e, .int b, .ref t] ∧ H e = some (.dK kvs) ∧ (∀ p, (p = w.1 ∨ p = w.2.2) → valV kvs (.inl (p : Nat)) = some (.int (endsOf W p : Nat))) ∧
  SqT K H t [.int w.1, .str (lS ⟨w.2.1, false⟩), .int w.2.2] ∧ Q (.bl (isTail W b w)) H
theorem ok_is_tail (T : Top K mg) : FnOk P w K mg base CX0 1 T.d_is_tail.f T.d_is_tail.d ["ends", "base", "way"] (spTail K) := by
  refine T.d_is_tail.F.ok sc_is_tail (fun vs H Q E h => ?_) (fun cdv A outer s H vs Q E hr h => ?_)
  · obtain ⟨e, t, b, kvs, W, w, rfl, _⟩ := h
    rfl
  · obtain ⟨e, t, b, kvs, W, w, rfl, he, hv, ht, q⟩ := h
    have hu := hu_of hr
    refine ⟨_,
      (pss_cons (ps_asg (pv 2) (pg_tup (by rfl) (pgs_cons (pg_name (i := 3) sc_is_tail.nd rfl (Or.inl rfl)) (pgs_cons (pg_name (i := 4) sc_is_tail.nd rfl (Or.inl rfl)) (pgs_cons (pg_name (i := 5) sc_is_tail.nd rfl (Or.inl rfl)) pgs_nil)))))
      (pss_one (ps_ret (pe_or (pe_and (pe_cmpR op_ne (pv 3) (pv 1) (nomark _)) (pe_one (pe_cmpR op_lt (pe_dget hu (pv 0) (pv 3) (fun _ _ => rfl)) pe_int (nomark _)))) (pe_one (pe_and (pe_cmpR op_ne (pv 5) (pv 1) (nomark _)) (pe_one (pe_cmpR op_lt (pe_dget hu (pv 0) (pv 5) (fun _ _ => rfl)) pe_int (nomark _)))))))))
      , ?_⟩
    obtain ⟨p, d, r⟩ := w
    simp only at hv ht
    refine ⟨_, rfl, t, _, rfl, ht, rfl, _, _, rfl, _, _, rfl, _, _, rfl, rfl, ?_⟩
    have g1 := hv p (.inl rfl)
    have g2 := hv r (.inr rfl)
    have fin : ∀ c, isTail W b (p, d, r) = c → Q (.bl c) H := fun c h => by rw [← h]; exact q
    have second : (p = b ∨ ¬ endsOf W p < 2) → (isTail W b (p, d, r) = decide (r ≠ b ∧ endsOf W r < 2)) := by
      intro h
      unfold isTail
      have : ¬ (p ≠ b ∧ endsOf W p < 2) := by
        rintro ⟨h1, h2⟩
        rcases h with h | h
        · exact h1 h
        · exact h h2
      simp only [this, false_or]
    have tail : (p = b ∨ ¬ endsOf W p < 2) → tAndV (tOp rNe (tVar 5) (tVar 1)) (tOp (rI0 fun i j => .bl (decide (i < j))) (tDGet (tVar 0) (tVar 5)) (tC (.int 2))) [some (.ref e), some (.int b), some (.ref t), some (.int p), some (.str (lS ⟨d, false⟩)), some (.int r)] H (fun v H' => Q v H') := by
      intro h
      have e2 := second h
      refine ⟨_, rfl, _, rfl, rfl, _, rfl, ?_⟩
      rw [dec_nat]
      by_cases hr2 : r = b
      · rw [decide_eq_true hr2]
        refine iteF (fin _ ?_)
        rw [e2]
        exact decide_eq_false fun z => z.1 hr2
      · rw [decide_eq_false hr2]
        refine iteT ?_
        refine ⟨_, rfl, _, rfl, e, _, rfl, .inl ⟨kvs, .inl (r : Nat), .inl he, rfl, g2.symm⟩, _, _, rfl, rfl, fin _ ?_⟩
        rw [e2]
        by_cases h3 : endsOf W r < 2
        · rw [decide_eq_true ⟨hr2, h3⟩, decide_eq_true (by omega)]
        · rw [decide_eq_false (fun z => h3 z.2), decide_eq_false (by omega)]
    refine ⟨_, rfl, _, rfl, rfl, _, rfl, ?_⟩
    rw [dec_nat]
    by_cases hp2 : p = b
    · rw [decide_eq_true hp2]
      refine iteF ?_
      exact ⟨_, rfl, iteF (tail (.inl hp2))⟩
    · rw [decide_eq_false hp2]
      refine iteT ?_
      refine ⟨_, rfl, _, rfl, e, _, rfl, .inl ⟨kvs, .inl (p : Nat), .inl he, rfl, g1.symm⟩, _, _, rfl, rfl, _, rfl, ?_⟩
      by_cases h3 : endsOf W p < 2
      · rw [decide_eq_true (show ((endsOf W p : Nat) : Int) < 2 by omega)]
        refine iteT (fin _ ?_)
        unfold isTail
        exact decide_eq_true (.inl ⟨hp2, h3⟩)
      · rw [decide_eq_false (show ¬ ((endsOf W p : Nat) : Int) < 2 by omega)]
        exact iteF (tail (.inr h3))
/-- a dict of counts -/
def EndsK (kvs : List (L2.Key × V)) (c : Nat → Nat) : Prop := ∀ p : Nat, valV kvs (.inl (p : Int)) = if c p = 0 then none else some (.int (c p : Nat))
theorem EndsK.put {kvs : List (L2.Key × V)} {c : Nat → Nat} (h : EndsK kvs c) (p : Nat) : EndsK (putK kvs (.inl (p : Int)) (.int ((c p : Nat) + 1 : Int))) (fun q => c q + if p = q then 1 else 0) := by
  intro q
  rw [valV_put]
  by_cases e : p = q
  · subst e
    rw [if_pos rfl]
    simp
  · have : ¬ ((Sum.inl (q : Int) : L2.Key) = Sum.inl (p : Int)) := fun z => e (by have := Sum.inl.inj z; omega)
    rw [if_neg this, h q]
    simp [e]
theorem EndsK.get {kvs : List (L2.Key × V)} {c : Nat → Nat} (h : EndsK kvs c) (p : Nat) : (valV kvs (.inl (p : Int))).getD (.int 0) = .int (c p : Nat) := by
  rw [h p]
  split
  · rename_i e; rw [e]; rfl
  · rfl
def spNoTails (K : PySem.W.Frag) : Sp := fun vs H Q _ => ∃ (a b : Nat) (W : List Way), vs = [.ref a, .int b] ∧ WaysAt K H a W ∧ W.length ≤ 100000 ∧ ∀ p V H', Same H H' → WaysAt K H' p V → Tr b (-1) W V → V.length ≤ W.length → Q (.ref p) H'
theorem ok_without_tails (T : Top K mg) : FnOk P w K mg base CX0 2 T.d_without_tails.f T.d_without_tails.d ["ways", "base"] (spNoTails K) := by
  refine T.d_without_tails.F.ok sc_without_tails (fun vs H Q E h => ?_) (fun cdv A outer s H vs Q E hr h => ?_)
  · obtain ⟨a, b, W, rfl, _⟩ := h
    rfl
  · obtain ⟨a, b, W, rfl, hW, hlen, q⟩ := h
    have hu := hu_of hr
    refine ⟨_,
      (pss_cons (ps_set (i := 2) sc_without_tails.nd rfl (Or.inl rfl) (pe_un un_neg pe_int))
      (pss_cons (ps_while PassesOwn.never (pt_cmpR op_ne (pv 2) (pe_callB call_len_seq (by rfl) T.z_len (by decide +kernel) (pa_cons (pv 0) pa_nil)) (nomark _))
      (pss_cons (ps_set (i := 2) sc_without_tails.nd rfl (Or.inl rfl) (pe_callB call_len_seq (by rfl) T.z_len (by decide +kernel) (pa_cons (pv 0) pa_nil)))
      (pss_cons (ps_set (i := 3) sc_without_tails.nd rfl (Or.inr rfl) pe_dnewK)
      (pss_cons (ps_for PassesOwn.never rfl (pi_list (pv 0)) (pg_tup (by rfl) (pgs_cons (pg_name (i := 4) sc_without_tails.nd rfl (Or.inl rfl)) (pgs_cons (pg_name (i := 5) sc_without_tails.nd rfl (Or.inl rfl)) (pgs_cons (pg_name (i := 6) sc_without_tails.nd rfl (Or.inl rfl)) pgs_nil))))
      (pss_cons (ps_dput hu (pv 3) (pv 4) (pe_op op_add (pe_dget2 hu (pv 3) (pv 4) pe_int ⟨rfl, rfl, rfl, rfl⟩) pe_int) rfl)
      (pss_one (ps_dput hu (pv 3) (pv 6) (pe_op op_add (pe_dget2 hu (pv 3) (pv 6) pe_int ⟨rfl, rfl, rfl, rfl⟩) pe_int) rfl))))
      (pss_one (ps_setLc (i := 0) (own := [("way", 7)]) (g := (gName 7)) rfl sc_without_tails.nd rfl rfl (sw_true rfl rfl rfl (by decide +kernel)) (pi_list (pv 0)) (blkOk_by (N := N_without_tails) (sc := defScope s_without_tails) (by decide +kernel)) (fun _ _ _ _ _ => (pg_name (i := 7) sc_without_tails.nd rfl (Or.inl rfl))) (fun _ _ _ _ _ => (pts_one (pt_not (pt_val (pe_call (ok_is_tail T) (hr.mono (by decide)) (by rfl) T.d_is_tail.g T.d_is_tail.F.kp T.d_is_tail.b .nil pass0 (pa_cons (pv 3) (pa_cons (pv 1) (pa_cons (pv 7) pa_nil)))))))) (fun _ _ _ _ _ => (pv 7))))))))
      (pss_one (ps_ret (pv 0)))))
      , ?_⟩
    refine ⟨_, rfl, ?_⟩
    refine while_w (fun m σ H' => ∃ aw U, ∃ mn : Int, ∃ v3 v4 v5 v6 v7, σ = [some (.ref aw), some (.int b), some (.int mn), v3, v4, v5, v6, v7] ∧ WaysAt K H' aw U ∧ Same H H' ∧ U.length ≤ W.length ∧ m = (if mn = U.length then 0 else U.length + 1) ∧ ∀ V, Tr b mn U V → Tr b (-1) W V) (W.length + 1) ?_ ?_
    · refine ⟨a, W, -1, none, none, none, none, none, rfl, hW, Same.refl _, Nat.le_refl _, ?_, fun V h => h⟩
      rw [if_neg (by omega)]
    · rintro m σ H1 ⟨aw, U, mn, v3, v4, v5, v6, v7, rfl, hU, s1, hUl, rfl, hT⟩
      obtain ⟨vs, hv, hD⟩ := id hU
      have hvl : vs.length = U.length := by rw [dp_len hD, List.length_map]
      refine ⟨_, rfl, _, rfl, aw, vs, rfl, .inl (SqL.of hv), rfl, _, rfl, ?_⟩
      by_cases hm : mn = U.length
      · have e1 : decide (V.int mn = V.int (vs.length : Int)) = true := decide_eq_true (by rw [hvl, hm])
        rw [e1]
        refine iteF ?_
        exact ⟨_, rfl, q aw U H1 s1 hU (hT U (.stop hm)) hUl⟩
      · have e1 : decide (V.int mn = V.int (vs.length : Int)) = false := decide_eq_false (by rw [hvl]; intro z; exact hm (V.int.inj z))
        rw [e1, if_neg hm]
        refine iteT ?_
        refine ⟨_, fun _ _ h => h, ?_⟩
        refine ⟨_, rfl, aw, vs, rfl, .inl (SqL.of hv), ?_⟩
        intro ed hed
        have s2 : Same H1 (upd H1 ed (.dK [])) := same_new hed
        refine ⟨_, rfl, aw, rfl, ⟨_, SqL.of (s2 _ _ hv)⟩, for_dl (K := K) (xs := vs) (ds := U) hvl (fun pre σ H' => ∃ v4 v5 v6 kvs, σ = [some (.ref aw), some (.int b), some (.int (vs.length : Int)), some (.ref ed), v4, v5, v6, v7] ∧ Same H1 H' ∧ H' ed = some (.dK kvs) ∧ EndsK kvs (endsOf pre) ∧ kvs.length ≤ 2 * pre.length)
          ⟨v4, v5, v6, [], rfl, s2, upd_same, fun p => rfl, by simp⟩ ?_ ?_ ?_⟩
        · rintro pre σ H' ⟨_, _, _, _, _, s3, _⟩
          exact SqL.of (s3 _ _ hv)
        · rintro pre w post x σ H' e hx ⟨v4, v5, v6, kvs, rfl, s3, hk, hE, hkl⟩
          obtain ⟨t, rfl, ht⟩ := way_at (dpAll_same s3 hD) e hx
          have hpre : pre.length < 100000 := by
            have := congrArg List.length e
            simp at this
            omega
          obtain ⟨p0, d0, q0⟩ := w
          simp only at ht
          refine ⟨t, _, rfl, ht, rfl, _, _, rfl, _, _, rfl, _, _, rfl, rfl, ?_⟩
          have l1 := length_putK kvs (.inl (p0 : Int)) (V.int ((endsOf pre p0 : Nat) + 1 : Int))
          refine ⟨_, rfl, ed, rfl, .inl ⟨_, .inl hk⟩, _, rfl, _, DGet.k (k := .inl (p0 : Int)) hk, ((endsOf pre p0 : Nat) : Int), 1, hE.get p0, rfl, _, rfl, _, rfl, ed, _, rfl, DPut.k (k := .inl (p0 : Int)) hk (sz1M (by omega)), ?_⟩
          have hE1 := hE.put p0
          have l2 := length_putK (putK kvs (.inl (p0 : Int)) (V.int ((endsOf pre p0 : Nat) + 1 : Int))) (.inl (q0 : Int)) (V.int (((endsOf pre q0 + if p0 = q0 then 1 else 0 : Nat) : Int) + 1))
          refine ⟨_, rfl, ed, rfl, .inl ⟨_, .inl upd_same⟩, _, rfl, _, DGet.k (k := .inl (q0 : Int)) upd_same, ((endsOf pre q0 + if p0 = q0 then 1 else 0 : Nat) : Int), 1, hE1.get q0, rfl, _, rfl, _, rfl, ed, _, rfl, DPut.k (k := .inl (q0 : Int)) upd_same (sz1M (Nat.le_trans (length_putK _ _ _) (by omega))), ?_⟩
          refine ⟨_, _, _, _, rfl, same_mut (same_mut s3 hed) hed, upd_same, ?_, by rw [List.length_append]; simp only [List.length_cons, List.length_nil]; omega⟩
          have hE2 := hE1.put q0
          intro r
          have := hE2 r
          rw [ends_snoc]
          exact this
        · rintro σ H2 ⟨v4, v5, v6, kvs, rfl, s3, hk, hE, hkl⟩
          have hv2 := s3 _ _ hv
          refine ⟨_, rfl, aw, rfl, ⟨_, SqL.of hv2⟩, fun D hDn => ?_⟩
          refine lc_dl (K := K) (xs := vs) (ds := U) hvl (fun pre H' => ∃ acc, Same H2 H' ∧ H' D = some (.lst acc) ∧ acc.length ≤ pre.length ∧ DpAll K H' acc ((pre.filter fun w => !isTail U b w).map encW)) ⟨[], same_new hDn, upd_same, by simp, .nil⟩ ?_ ?_ ?_
          · rintro pre H' ⟨_, s4, _⟩
            exact SqL.of (s4 _ _ hv2)
          · rintro pre w post x H' e hx ⟨acc, s4, hacc, hal, had⟩
            obtain ⟨t, rfl, ht⟩ := way_at (dpAll_same s4 (dpAll_same s3 hD)) e hx
            have hwU : w ∈ U := by rw [e]; simp
            have hpre : pre.length < 100000 := by
              have := congrArg List.length e
              simp at this
              omega
            obtain ⟨_, g1, g2⟩ := ends_pos hwU
            refine ⟨rfl, ?_⟩
            refine ⟨_, rfl, _, rfl, _, rfl, ed, t, b, kvs, U, w, rfl, s4 _ _ hk, ?_, ht, isTail U b w, rfl, ?_⟩
            · rintro p (rfl | rfl)
              · rw [hE w.1, if_neg (by omega)]
              · rw [hE w.2.2, if_neg (by omega)]
            · cases hc : isTail U b w with
              | true =>
                refine iteF ?_
                refine ⟨acc, s4, hacc, by rw [List.length_append]; omega, ?_⟩
                rw [List.filter_append]
                simp [hc]
                exact had
              | false =>
                refine iteT ?_
                refine ⟨_, rfl, acc, hacc, sz1M (by omega), acc ++ [.ref t], same_mut s4 hDn, upd_same, by rw [List.length_append, List.length_append]; simp; omega, ?_⟩
                have e1 : (pre ++ [w]).filter (fun w => !isTail U b w) = pre.filter (fun w => !isTail U b w) ++ [w] := by
                  rw [List.filter_append]
                  simp [hc]
                rw [e1, List.map_append]
                have k2 : KeepT H' (upd H' D (.lst (acc ++ [.ref t]))) := KeepT.put (.inr (by rw [hacc]; exact True.intro))
                exact dp_snoc (dp_of3 (k2.sqT ht)) (dpAll_keep k2 had (flat_ways _))
          · rintro H' ⟨acc, s4, hacc, hal, had⟩
            have hcl : (cut U b).length ≤ U.length := List.length_filter_le _ _
            refine ⟨_, ?_, D, cut U b, (vs.length : Int), _, _, _, _, _, rfl, ⟨acc, hacc, had⟩, (s1.trans s3).trans s4, Nat.le_trans hcl hUl, rfl, fun V h => hT V (.go hm (by rw [← hvl]; exact h))⟩
            split
            · omega
            · rename_i hne
              rw [hvl] at hne
              omega
end
end Rb
/-! What hangs together with a place. -/
namespace Rb
set_option linter.all false
set_option maxRecDepth 100000
set_option maxHeartbeats 4000000
open PySem PySem.Spec PyProof.Rows L2
abbrev Near := List (Nat × Addr × List Nat)
def ivs (ns : List Nat) : List V := ns.map fun i : Nat => V.int i
def kvN (N : Near) : List (L2.Key × V) := N.map fun e => (.inl (e.1 : Int), .ref e.2.1)
def HasN (N : Near) (p : Nat) : Prop := ∃ e ∈ N, e.1 = p
def InN (N : Near) (p q : Nat) : Prop := ∃ e ∈ N, e.1 = p ∧ q ∈ e.2.2
theorem valV_near_some : ∀ {N : Near} {p : Nat} {v : V}, valV (kvN N) (.inl (p : Int)) = some v → ∃ e ∈ N, e.1 = p ∧ v = .ref e.2.1
  | [], _, _, h => by simp [kvN, valV] at h
  | e :: N, p, v, h => by
    unfold kvN at h
    rw [List.map_cons] at h
    by_cases he : e.1 = p
    · rw [valV_pos (by rw [he])] at h
      exact ⟨e, by simp, he, (Option.some.inj h).symm⟩
    · rw [valV_neg (fun z => he (by have := Sum.inl.inj z; omega))] at h
      obtain ⟨e', h1, h2, h3⟩ := valV_near_some (N := N) h
      exact ⟨e', List.mem_cons_of_mem _ h1, h2, h3⟩
theorem valV_near_none : ∀ {N : Near} {p : Nat}, valV (kvN N) (.inl (p : Int)) = none → ¬ HasN N p
  | [], _, _ => by rintro ⟨e, h, _⟩; simp at h
  | e :: N, p, h => by
    unfold kvN at h
    rw [List.map_cons] at h
    by_cases he : e.1 = p
    · rw [valV_pos (by rw [he])] at h
      cases h
    · rw [valV_neg (fun z => he (by have := Sum.inl.inj z; omega))] at h
      have ih := valV_near_none (N := N) h
      rintro ⟨e', h1, h2⟩
      rcases List.mem_cons.mp h1 with z | z
      · subst z; exact he h2
      · exact ih ⟨e', z, h2⟩
/-- the dict at nd with its lists; H0: the heap ahead -/
structure NearAt (H0 H : Hp) (nd : Addr) (N : Near) : Prop where
  d : H nd = some (.dK (kvN N))
  l : ∀ e ∈ N, H e.2.1 = some (.lst (ivs e.2.2))
  k : (N.map (·.1)).Nodup
  a : (N.map (·.2.1)).Nodup
  f : ∀ e ∈ N, H0 e.2.1 = none
theorem nodup_inj {α β : Type} {f : α → β} : ∀ {l : List α}, (l.map f).Nodup → ∀ {x y : α}, x ∈ l → y ∈ l → f x = f y → x = y
  | [], _, _, _, h, _, _ => by simp at h
  | z :: l, hn, x, y, hx, hy, e => by
    rw [List.map_cons, List.nodup_cons] at hn
    rcases List.mem_cons.mp hx with rfl | hx'
    · rcases List.mem_cons.mp hy with rfl | hy'
      · rfl
      · exact absurd (List.mem_map.mpr ⟨y, hy', e.symm⟩) hn.1
    · rcases List.mem_cons.mp hy with rfl | hy'
      · exact absurd (List.mem_map.mpr ⟨x, hx', e⟩) hn.1
      · exact nodup_inj hn.2 hx' hy' e
def putN (N : Near) (p q : Nat) : Near := N.map fun e => if e.1 = p then (e.1, e.2.1, e.2.2 ++ [q]) else e
theorem putN_keys (N : Near) (p q : Nat) : (putN N p q).map (·.1) = N.map (·.1) ∧ (putN N p q).map (·.2.1) = N.map (·.2.1) ∧ kvN (putN N p q) = kvN N := by
  unfold putN kvN
  rw [List.map_map, List.map_map, List.map_map]
  refine ⟨List.map_congr_left ?_, List.map_congr_left ?_, List.map_congr_left ?_⟩ <;> (intro e _; simp only [Function.comp]; split <;> rfl)
theorem mem_putN {N : Near} {p q : Nat} {e : Nat × Addr × List Nat} : e ∈ putN N p q ↔ ∃ e' ∈ N, (if e'.1 = p then (e'.1, e'.2.1, e'.2.2 ++ [q]) else e') = e := by
  unfold putN
  rw [List.mem_map]
theorem in_putN {N : Near} {p q p' q' : Nat} (hk : HasN N p) : InN (putN N p q) p' q' ↔ InN N p' q' ∨ (p' = p ∧ q' = q) := by
  constructor
  · rintro ⟨e, he, h1, h2⟩
    obtain ⟨e', he', z⟩ := mem_putN.mp he
    split at z
    · rename_i hp
      subst z
      simp only [List.mem_append, List.mem_singleton] at h1 h2
      rcases h2 with h2 | h2
      · exact .inl ⟨e', he', h1, h2⟩
      · exact .inr ⟨by omega, h2⟩
    · subst z
      exact .inl ⟨e', he', h1, h2⟩
  · rintro (⟨e, he, h1, h2⟩ | ⟨h1, h2⟩)
    · refine ⟨_, mem_putN.mpr ⟨e, he, rfl⟩, ?_, ?_⟩
      · split <;> exact h1
      · split
        · exact List.mem_append_left _ h2
        · exact h2
    · obtain ⟨e, he, h3⟩ := hk
      refine ⟨_, mem_putN.mpr ⟨e, he, rfl⟩, ?_, ?_⟩
      · rw [if_pos h3, h1]; exact h3
      · rw [if_pos h3, h2]; simp
theorem has_putN {N : Near} {p q p' : Nat} : HasN (putN N p q) p' ↔ HasN N p' := by
  constructor
  · rintro ⟨e, he, h1⟩
    obtain ⟨e', he', z⟩ := mem_putN.mp he
    refine ⟨e', he', ?_⟩
    rw [← h1, ← z]
    split <;> rfl
  · rintro ⟨e, he, h1⟩
    refine ⟨_, mem_putN.mpr ⟨e, he, rfl⟩, ?_⟩
    split <;> exact h1
section
variable {P : Program} {w : World} {K : PySem.W.Frag} {mg : Str → Option Value} {base : Heap}
/-- near.setdefault(p, []).append(q) -/
theorem rd_near {σ : L2.St} {H0 H : Hp} {D : Ends} {i j : Nat} {nd : Addr} {N : Near} {p q : Nat} (hi : σ[i]? = some (some (.int p))) (hj : σ[j]? = some (some (.int q))) (h2 : σ[2]? = some (some (.ref nd)))
    (hN : NearAt H0 H nd N) (hS : Same H0 H) (hnd : H0 nd = none) (hlen : N.length < 1000000) (hll : ∀ e ∈ N, e.2.2.length < 1000000)
    (go : ∀ H' N', NearAt H0 H' nd N' → Same H0 H' → N'.length ≤ N.length + 1 → (∀ m, (∀ e ∈ N, e.2.2.length ≤ m) → ∀ e ∈ N', e.2.2.length ≤ m + 1) → (∀ p' q', InN N' p' q' ↔ InN N p' q' ∨ (p' = p ∧ q' = q)) → (∀ p', HasN N' p' ↔ HasN N p' ∨ p' = p) → D.nx σ H') :
    tDrop (tBM K "list" rAppend (tDSetd (tVar 2) (tVar i) (tLst tNil)) (tCons (tVar j) tNil)) D σ H := by
  refine ⟨_, h2, nd, rfl, .inl ⟨_, .inl hN.d⟩, _, hi, Nat.zero_le _, fun l0 hl0 => ?_⟩
  have hnl : nd ≠ l0 := ne_of_none hN.d hl0
  have s0 : Same H (upd H l0 (.lst [])) := same_new hl0
  have hd0 : (upd H l0 (.lst [])) nd = some (.dK (kvN N)) := s0 _ _ hN.d
  refine ⟨kvN N, .inl (p : Int), hd0, rfl, ?_, ?_, ?_⟩
  · unfold kvN
    rw [List.length_map]
    exact Nat.lt_trans hlen (by decide)
  · intro v hv
    obtain ⟨e, he, hep, rfl⟩ := valV_near_some hv
    have hel := hN.l e he
    have hl := s0 _ _ hel
    have hlen2 := hll e he
    refine ⟨.inl ⟨rfl, _, SqL.of hl⟩, _, hj, e.2.1, _, _, rfl, rfl, hl, ?_, ?_⟩
    · unfold ivs
      rw [List.length_map]
      exact Nat.lt_trans hlen2 (by decide)
    · have hdn : nd ≠ e.2.1 := ne_of hN.d hel (by intro z; cases z)
      obtain ⟨k1, k2, k3⟩ := putN_keys N p q
      refine go _ (putN N p q) ⟨?_, ?_, ?_, ?_, ?_⟩ ?_ ?_ ?_ (fun p' q' => in_putN ⟨e, he, hep⟩) (fun p' => ?_)
      · rw [upd_ne hdn, k3]
        exact hd0
      · intro e1 he1
        obtain ⟨e2, he2, z⟩ := mem_putN.mp he1
        by_cases h3 : e2.1 = p
        · rw [if_pos h3] at z
          have e4 : e2 = e := nodup_inj hN.k he2 he (by rw [h3, hep])
          subst e4
          subst z
          show upd _ e2.2.1 _ e2.2.1 = _
          rw [upd_same]
          simp [ivs]
        · rw [if_neg h3] at z
          subst z
          have h4 : e2.2.1 ≠ e.2.1 := fun z => h3 (by rw [nodup_inj hN.a he2 he z, hep])
          rw [upd_ne h4]
          exact s0 _ _ (hN.l e2 he2)
      · rw [k1]; exact hN.k
      · rw [k2]; exact hN.a
      · intro e1 he1
        obtain ⟨e2, he2, z⟩ := mem_putN.mp he1
        have := hN.f e2 he2
        rw [← z]
        split <;> exact this
      · exact same_mut (hS.trans s0) (hN.f e he)
      · have : (putN N p q).length = N.length := List.length_map _
        omega
      · intro m hm e1 he1
        obtain ⟨e2, he2, z⟩ := mem_putN.mp he1
        have := hm e2 he2
        rw [← z]
        split
        · simp; omega
        · omega
      · rw [has_putN]
        constructor
        · exact .inl
        · rintro (h | h)
          · exact h
          · exact ⟨e, he, by rw [h]; exact hep⟩
  · intro hn
    have hno := valV_near_none hn
    have hl0n : (upd (upd H l0 (.lst [])) nd (.dK (putK (kvN N) (.inl (p : Int)) (.ref l0)))) l0 = some (.lst []) := by rw [upd_ne hnl.symm]; exact upd_same
    refine ⟨.inl ⟨rfl, _, SqL.of hl0n⟩, _, hj, l0, _, _, rfl, rfl, hl0n, by decide, ?_⟩
    have ek : putK (kvN N) (.inl (p : Int)) (.ref l0) = kvN (N ++ [(p, l0, [q])]) := by
      rw [putK_new _ hn]
      simp [kvN]
    have hfl : ∀ e ∈ N, e.2.1 ≠ l0 := fun e he z => by
      have := hN.l e he
      rw [z, hl0] at this
      cases this
    have hdn : ∀ e ∈ N, e.2.1 ≠ nd := fun e he => ne_of (hN.l e he) hN.d (by intro z; cases z)
    refine go _ (N ++ [(p, l0, [q])]) ⟨?_, ?_, ?_, ?_, ?_⟩ ?_ ?_ ?_ ?_ ?_
    · rw [upd_ne hnl, upd_same, ek]
    · intro e he
      rcases List.mem_append.mp he with he | he
      · rw [upd_ne (hfl e he), upd_ne (hdn e he)]
        exact s0 _ _ (hN.l e he)
      · rw [List.mem_singleton.mp he]
        show upd _ l0 _ l0 = _
        rw [upd_same]
        rfl
    · rw [List.map_append, List.nodup_append]
      refine ⟨hN.k, by simp, ?_⟩
      intro x hx y hy e
      obtain ⟨z, hz, rfl⟩ := List.mem_map.mp hx
      simp at hy
      exact hno ⟨z, hz, by rw [e, hy]⟩
    · rw [List.map_append, List.nodup_append]
      refine ⟨hN.a, by simp, ?_⟩
      intro x hx y hy e
      obtain ⟨z, hz, rfl⟩ := List.mem_map.mp hx
      simp at hy
      exact hfl z hz (by rw [e, hy])
    · intro e he
      rcases List.mem_append.mp he with he | he
      · exact hN.f e he
      · rw [List.mem_singleton.mp he]
        exact hS.free hl0
    · exact same_mut (same_mut (hS.trans s0) hnd) (hS.free hl0)
    · simp
    · intro m hm e he
      rcases List.mem_append.mp he with he | he
      · have := hm e he
        omega
      · rw [List.mem_singleton.mp he]
        simp
    · intro p' q'
      constructor
      · rintro ⟨e, he, h1, h2⟩
        rcases List.mem_append.mp he with he | he
        · exact .inl ⟨e, he, h1, h2⟩
        · rw [List.mem_singleton.mp he] at h1 h2
          simp at h1 h2
          exact .inr ⟨h1.symm, h2⟩
      · rintro (⟨e, he, h1, h2⟩ | ⟨h1, h2⟩)
        · exact ⟨e, List.mem_append_left _ he, h1, h2⟩
        · exact ⟨(p, l0, [q]), by simp, h1.symm, by simp [h2]⟩
    · intro p'
      constructor
      · rintro ⟨e, he, h1⟩
        rcases List.mem_append.mp he with he | he
        · exact .inl ⟨e, he, h1⟩
        · rw [List.mem_singleton.mp he] at h1
          exact .inr h1.symm
      · rintro (⟨e, he, h1⟩ | h1)
        · exact ⟨e, List.mem_append_left _ he, h1⟩
        · exact ⟨(p, l0, [q]), by simp, h1.symm⟩
/-- a dict whose keys are the places S -/
def FoundK (kvs : List (L2.Key × V)) (S : List Nat) : Prop := kvs.length = S.length ∧ ∀ p : Nat, (valV kvs (.inl (p : Int))).isSome = decide (p ∈ S)
theorem FoundK.put {kvs : List (L2.Key × V)} {S : List Nat} (h : FoundK kvs S) {p : Nat} (hp : ¬ p ∈ S) (v : V) : FoundK (putK kvs (.inl (p : Int)) v) (S ++ [p]) := by
  have hn : valV kvs (.inl (p : Int)) = none := by
    have := h.2 p
    rw [decide_eq_false hp] at this
    exact Option.isSome_eq_false_iff.mp this |> Option.isNone_iff_eq_none.mp
  refine ⟨by rw [putK_new _ hn, List.length_append, List.length_append, h.1]; rfl, ?_⟩
  intro q
  rw [valV_put]
  by_cases e : q = p
  · subst e
    rw [if_pos rfl]
    simp
  · have : ¬ ((Sum.inl (q : Int) : L2.Key) = Sum.inl (p : Int)) := fun z => e (by have := Sum.inl.inj z; omega)
    rw [if_neg this, h.2 q]
    simp [e]
def spHanging (K : PySem.W.Frag) : Sp := fun vs H Q _ => ∃ (a b : Nat) (W : List Way), vs = [.ref a, .int b] ∧ WaysAt K H a W ∧ W.length ≤ 100000 ∧ Hangs W b ∧ ∀ p H', H p = none → Same H H' → WaysAt K H' p W → Q (.ref p) H'
theorem ok_hanging (T : Top K mg) : FnOk P w K mg base CX0 1 T.d_hanging.f T.d_hanging.d ["ways", "base"] (spHanging K) := by
  refine T.d_hanging.F.ok sc_hanging (fun vs H Q E h => ?_) (fun cdv A outer s H vs Q E hr h => ?_)
  · obtain ⟨a, b, W, rfl, _⟩ := h
    rfl
  · obtain ⟨a, b, W, rfl, hW, hlen, hH, q⟩ := h
    have hu := hu_of hr
    refine ⟨_,
      (pss_cons (ps_set (i := 2) sc_hanging.nd rfl (Or.inl rfl) (pe_disp (pps_cons (pv 1) (pe_lst pa_nil) pps_nil) (by rfl) (by rfl) (fun z => by cases z) (by decide)))
      (pss_cons (ps_for PassesOwn.never rfl (pi_list (pv 0)) (pg_tup (by rfl) (pgs_cons (pg_name (i := 3) sc_hanging.nd rfl (Or.inl rfl)) (pgs_cons (pg_name (i := 4) sc_hanging.nd rfl (Or.inl rfl)) (pgs_cons (pg_name (i := 5) sc_hanging.nd rfl (Or.inl rfl)) pgs_nil))))
      (pss_cons (ps_expr (pe_bm PySem.F.plainAttrs_list PySem.F.slot_list_append PySem.F.type_list_append mt_append (pe_dsetd (pv 2) (pv 3) (pe_lst pa_nil) ⟨rfl, rfl, rfl, rfl⟩) (pa_cons (pv 5) pa_nil)))
      (pss_one (ps_expr (pe_bm PySem.F.plainAttrs_list PySem.F.slot_list_append PySem.F.type_list_append mt_append (pe_dsetd (pv 2) (pv 5) (pe_lst pa_nil) ⟨rfl, rfl, rfl, rfl⟩) (pa_cons (pv 3) pa_nil))))))
      (pss_cons (ps_set (i := 6) sc_hanging.nd rfl (Or.inr rfl) (pe_disp (pps_cons (pv 1) pe_bl pps_nil) (by rfl) (by rfl) (fun z => by cases z) (by decide)))
      (pss_cons (ps_set (i := 7) sc_hanging.nd rfl (Or.inl rfl) (pe_lst (pa_cons (pv 1) pa_nil)))
      (pss_cons (ps_while PassesOwn.never (pt_cmpR op_gt (pe_callB call_len_seq (by rfl) T.z_len (by decide +kernel) (pa_cons (pv 7) pa_nil)) pe_int (nomark _))
      (pss_one (ps_for PassesOwn.never rfl (pi_list (pe_dget hu (pv 2) (pe_bm0 PySem.F.plainAttrs_list PySem.F.slot_list_pop PySem.F.type_list_pop mt_pop (pv 7)) (fun _ _ => rfl))) (pg_name (i := 3) sc_hanging.nd rfl (Or.inl rfl))
      (pss_one (ps_if (pt_cmp (pc_dnotin hu (pv 3) (pv 6)))
      (pss_cons (ps_dput hu (pv 6) (pv 3) pe_bl rfl)
      (pss_one (ps_expr (pe_bm PySem.F.plainAttrs_list PySem.F.slot_list_append PySem.F.type_list_append mt_append (pv 7) (pa_cons (pv 3) pa_nil)))))
      pss_nil)))))
      (pss_one (ps_ret (pe_lc (own := [("way", 8)]) (g := (gName 8)) rfl sc_hanging.nd (pi_list (pv 0)) (blkOk_by (N := N_hanging) (sc := defScope s_hanging) (by decide +kernel)) (fun _ _ _ _ _ => (pg_name (i := 8) sc_hanging.nd rfl (Or.inl rfl))) (fun _ _ _ _ _ => (pts_one (pt_cmp (pc_din hu (pe_ix (ix_tupK (K := K) rfl) (pv 8) pe_int (fun _ _ => rfl)) (pv 6))))) (fun _ _ _ _ _ => (pv 8))))))))))
      , ?_⟩
    intro nd hnd
    have hnd0 : (upd H nd (.dK [])) nd = some (.dK []) := upd_same
    refine ⟨_, rfl, Nat.zero_le _, fun l0 hl0 => ?_⟩
    have hnl : nd ≠ l0 := ne_of_none hnd0 hl0
    have hl00 : H l0 = none := by rw [upd_ne hnl.symm] at hl0; exact hl0
    refine ⟨by rw [upd_ne hnl]; exact hnd0, [(.inl (b : Int), .ref l0)], rfl, by simp, ?_⟩
    have em : mergeK [] [((.inl (b : Int) : L2.Key), V.ref l0)] = kvN [(b, l0, [])] := rfl
    rw [em]
    generalize hH1 : upd (upd (upd H nd (.dK [])) l0 (.lst [])) nd (.dK (kvN [(b, l0, [])])) = H1
    have s1 : Same H H1 := by
      rw [← hH1]
      exact same_mut ((same_new hnd).trans (same_new hl0)) hnd
    have N1 : NearAt H H1 nd [(b, l0, [])] := by
      refine ⟨by rw [← hH1]; exact upd_same, ?_, by simp, by simp, ?_⟩
      · intro e he
        rw [List.mem_singleton.mp he, ← hH1, upd_ne hnl.symm]
        exact upd_same
      · intro e he
        rw [List.mem_singleton.mp he]
        exact hl00
    obtain ⟨vs, hv, hD⟩ := id hW
    have hvl : vs.length = W.length := by rw [dp_len hD, List.length_map]
    refine ⟨_, rfl, a, rfl, ⟨_, SqL.of (s1 _ _ hv)⟩, for_dl (K := K) (xs := vs) (ds := W) hvl (fun pre σ H' => ∃ v3 v4 v5 N, σ = [some (.ref a), some (.int b), some (.ref nd), v3, v4, v5, none, none, none] ∧ Same H H' ∧ NearAt H H' nd N ∧ N.length ≤ 1 + 2 * pre.length ∧ (∀ e ∈ N, e.2.2.length ≤ 2 * pre.length) ∧
        (∀ p q, InN N p q ↔ Adj pre p q) ∧ (∀ p, HasN N p ↔ p = b ∨ ∃ q, Adj pre p q))
      ⟨none, none, none, _, rfl, s1, N1, by simp, by intro e he; rw [List.mem_singleton.mp he]; simp, ?_, ?_⟩ ?_ ?_ ?_⟩
    · intro p q
      constructor
      · rintro ⟨e, he, _, h⟩
        rw [List.mem_singleton.mp he] at h
        simp at h
      · intro h
        obtain ⟨w, hw, _⟩ := adj_of h
        simp at hw
    · intro p
      constructor
      · rintro ⟨e, he, h⟩
        rw [List.mem_singleton.mp he] at h
        exact .inl h.symm
      · rintro (h | ⟨q, h⟩)
        · exact ⟨_, List.mem_singleton.mpr rfl, h.symm⟩
        · obtain ⟨w, hw, _⟩ := adj_of h
          simp at hw
    · rintro pre σ H' ⟨_, _, _, _, _, s2, _⟩
      exact SqL.of (s2 _ _ hv)
    · rintro pre w post x σ H' e hx ⟨v3, v4, v5, N, rfl, s2, hN, nl, ll, hin, hhas⟩
      obtain ⟨t, rfl, ht⟩ := way_at (dpAll_same s2 hD) e hx
      have hpre : pre.length < 100000 := by
        have := congrArg List.length e
        simp at this
        omega
      obtain ⟨p0, d0, q0⟩ := w
      simp only at ht
      refine ⟨t, _, rfl, ht, rfl, _, _, rfl, _, _, rfl, _, _, rfl, rfl, ?_⟩
      refine rd_near (i := 3) (j := 5) (p := p0) (q := q0) rfl rfl rfl hN s2 hnd (by omega) (fun e he => by have := ll e he; omega) ?_
      intro H2 N2 hN2 s3 nl2 ll2 hin2 hhas2
      refine rd_near (i := 5) (j := 3) (p := q0) (q := p0) rfl rfl rfl hN2 s3 hnd (by omega) (fun e he => by have := ll2 (2 * pre.length) ll e he; omega) ?_
      intro H3 N3 hN3 s4 nl3 ll3 hin3 hhas3
      have adj_snoc : ∀ p q, Adj (pre ++ [(p0, d0, q0)]) p q ↔ Adj pre p q ∨ (p = p0 ∧ q = q0) ∨ (p = q0 ∧ q = p0) := by
        intro p q
        constructor
        · rintro ⟨x, h⟩
          rcases st_snoc.mp h with h | ⟨h1, _⟩ | ⟨h1, _⟩
          · exact .inl ⟨x, h⟩
          · simp only [Prod.mk.injEq] at h1
            exact .inr (.inl ⟨h1.1.symm, h1.2.2.symm⟩)
          · simp only [Prod.mk.injEq] at h1
            exact .inr (.inr ⟨h1.2.2.symm, h1.1.symm⟩)
        · rintro (⟨x, h⟩ | ⟨h1, h2⟩ | ⟨h1, h2⟩)
          · exact ⟨x, st_snoc.mpr (.inl h)⟩
          · exact ⟨⟨d0, false⟩, st_snoc.mpr (.inr (.inl ⟨by rw [h1, h2], rfl⟩))⟩
          · exact ⟨⟨d0, true⟩, st_snoc.mpr (.inr (.inr ⟨by rw [h1, h2], rfl⟩))⟩
      refine ⟨_, _, _, N3, rfl, s4, hN3, by rw [List.length_append]; simp only [List.length_cons, List.length_nil]; omega, ?_, ?_, ?_⟩
      · intro e he
        have := ll3 _ (ll2 _ ll) e he
        rw [List.length_append]
        simp only [List.length_cons, List.length_nil]
        omega
      · intro p q
        rw [hin3, hin2, hin, adj_snoc, or_assoc]
      · intro p
        rw [hhas3, hhas2, hhas]
        constructor
        · rintro (((h | ⟨q, h⟩) | h) | h)
          · exact .inl h
          · exact .inr ⟨q, (adj_snoc p q).mpr (.inl h)⟩
          · exact .inr ⟨q0, (adj_snoc p q0).mpr (.inr (.inl ⟨h, rfl⟩))⟩
          · exact .inr ⟨p0, (adj_snoc p p0).mpr (.inr (.inr ⟨h, rfl⟩))⟩
        · rintro (h | ⟨q, h⟩)
          · exact .inl (.inl (.inl h))
          · rcases (adj_snoc p q).mp h with h | ⟨h, _⟩ | ⟨h, _⟩
            · exact .inl (.inl (.inr ⟨q, h⟩))
            · exact .inl (.inr h)
            · exact .inr h
    · rintro σ H2 ⟨v3, v4, v5, N, rfl, s2, hN, nl, ll, hin, hhas⟩
      -- found = {base: True}; waiting = [base]
      intro fd hfd
      refine ⟨_, rfl, upd_same, [(.inl (b : Int), .bl true)], rfl, by simp, ?_⟩
      have ef : mergeK [] [((.inl (b : Int) : L2.Key), V.bl true)] = [(.inl (b : Int), .bl true)] := rfl
      rw [ef, upd_upd]
      refine ⟨_, rfl, (by show 1 ≤ sizeLine; decide), fun wl hwl => ?_⟩
      have sf : Same H2 (upd H2 fd (.dK [(.inl (b : Int), .bl true)])) := same_new hfd
      have hwl2 : H2 wl = none := sf.free hwl
      have hfw : fd ≠ wl := ne_of_none upd_same hwl
      have hwl0 : H wl = none := s2.free hwl2
      have hfd0 : H fd = none := s2.free hfd
      have fF : FoundK [((.inl (b : Int) : L2.Key), V.bl true)] [b] := by
        refine ⟨rfl, fun p => ?_⟩
        by_cases e : b = p
        · subst e
          rw [valV_pos rfl]
          simp
        · rw [valV_neg (fun z => e (by have := Sum.inl.inj z; omega))]
          simp [valV]
          exact fun z => e z.symm
      have nA : ∀ e ∈ N, e.2.1 ≠ wl ∧ e.2.1 ≠ fd := fun e he => by
        have := hN.l e he
        exact ⟨ne_of_none this hwl2, ne_of_none this hfd⟩
      have nD : nd ≠ wl ∧ nd ≠ fd := ⟨ne_of_none hN.d hwl2, ne_of_none hN.d hfd⟩
      have keys : ∀ p, HasN N p ↔ p = b ∨ ∃ q, Adj W p q := hhas
      refine while_w (fun m σ H' => ∃ v3 S ws kvs, σ = [some (.ref a), some (.int b), some (.ref nd), v3, v4, v5, some (.ref fd), some (.ref wl), none] ∧ Same H H' ∧ NearAt H H' nd N ∧ H' fd = some (.dK kvs) ∧ FoundK kvs S ∧ H' wl = some (.lst (ivs ws)) ∧
          S.Nodup ∧ b ∈ S ∧ (∀ p ∈ S, HasN N p) ∧ (∀ p ∈ ws, p ∈ S) ∧ (∀ p ∈ S, p ∈ ws ∨ ∀ q, Adj W p q → q ∈ S) ∧ m = 2 * (N.length - S.length) + ws.length ∧ S.length ≤ N.length ∧ ws.length ≤ S.length) (2 * (N.length - 1) + 1) ?_ ?_
      · refine ⟨v3, [b], [b], _, rfl, (s2.trans sf).trans (same_new hwl), ⟨?_, ?_, hN.k, hN.a, hN.f⟩, ?_, fF, upd_same, by simp, by simp, ?_, by simp, ?_, rfl, ?_, by simp⟩
        · rw [upd_ne nD.1]
          exact sf _ _ hN.d
        · intro e he
          rw [upd_ne (nA e he).1]
          exact sf _ _ (hN.l e he)
        · rw [upd_ne hfw]
          exact upd_same
        · intro p hp
          rw [List.mem_singleton.mp hp]
          exact (keys b).mpr (.inl rfl)
        · intro p hp
          exact .inl hp
        · obtain ⟨e, he, _⟩ := (keys b).mpr (.inl rfl)
          have : 0 < N.length := List.length_pos_of_mem he
          simp
          omega
      · rintro m σ H3 ⟨v3, S, ws, kvs, rfl, s3, hN3, hfd3, hF3, hwl3, c1, c2, c3, c4, c5, rfl, c6, c7⟩
        refine ⟨_, rfl, wl, _, rfl, .inl (SqL.of hwl3), _, _, rfl, rfl, _, rfl, ?_⟩
        rcases List.eq_nil_or_concat ws with e | ⟨ws', p, e⟩
        · -- the end
          subst e
          refine iteF ?_
          refine ⟨_, rfl, a, rfl, ⟨_, SqL.of (s3 _ _ hv)⟩, fun D hDn => ?_⟩
          have all : ∀ w ∈ W, w.1 ∈ S := fun w hw => hangs_all (S := fun p => p ∈ S) hH c2 (fun p q hp hq => by
            rcases c5 p hp with h | h
            · simp at h
            · exact h q hq) hw
          refine lc_dl (K := K) (xs := vs) (ds := W) hvl (fun pre H' => Same H3 H' ∧ H' D = some (.lst (vs.take pre.length))) ⟨same_new hDn, by rw [upd_same]; rfl⟩ ?_ ?_ ?_
          · rintro pre H' ⟨s4, _⟩
            exact SqL.of (s4 _ _ (s3 _ _ hv))
          · rintro pre w post x H' e hx ⟨s4, hacc⟩
            obtain ⟨t, rfl, ht⟩ := way_at (dpAll_same (s3.trans s4) hD) e hx
            have hwW : w ∈ W := by rw [e]; simp
            refine ⟨rfl, ?_⟩
            refine ⟨_, rfl, t, _, 0, _, rfl, rfl, ht, atI_nat (j := 0) rfl, _, rfl, fd, _, rfl, .inl ⟨kvs, .inl (w.1 : Int), .inl (s4 _ _ hfd3), rfl, rfl⟩, _, rfl, ?_⟩
            rw [hF3.2 w.1, decide_eq_true (all w hwW)]
            refine iteT ?_
            refine ⟨_, rfl, _, hacc, ?_, same_mut s4 hDn, ?_⟩
            · have := List.length_take_le pre.length vs
              have h2 := congrArg List.length e
              simp at h2
              exact sz1M (by omega)
            · rw [upd_same, List.length_append, List.length_singleton, take_snoc hx]
          · rintro H' ⟨s4, hacc⟩
            rw [← hvl, take_all] at hacc
            exact q D H' (s3.free hDn) (s3.trans s4) ⟨vs, hacc, dpAll_same (s3.trans s4) hD⟩
        · rw [List.concat_eq_append] at e
          subst e
          have hpS : p ∈ S := c4 p (by simp)
          have el : ((ivs (ws' ++ [p])).length : Int) = (ws'.length + 1 : Nat) := by simp [ivs]
          have ge : decide (((0 : Int)) < ((ivs (ws' ++ [p])).length : Int)) = true := decide_eq_true (by rw [el]; omega)
          have gl : (ivs (ws' ++ [p]))[(ivs (ws' ++ [p])).length - 1]? = some (.int p) := by simp [ivs]
          have gd : (ivs (ws' ++ [p])).dropLast = ivs ws' := by simp [ivs]
          show if decide ((0 : Int) < ((ivs (ws' ++ [p])).length : Int)) = true then _ else _
          rw [ge]
          refine iteT ?_
          refine ⟨_, fun _ _ h => h, ?_⟩
          obtain ⟨e0, he0, hp0⟩ := c3 p hpS
          have hdv : valV (kvN N) (.inl (p : Int)) = some (.ref e0.2.1) := by
            cases h : valV (kvN N) (.inl (p : Int)) with
            | none => exact absurd ⟨e0, he0, hp0⟩ (valV_near_none h)
            | some v =>
              obtain ⟨e1, he1, hp1, rfl⟩ := valV_near_some h
              rw [nodup_inj hN.k he1 he0 (by rw [hp1, hp0])]
          have hnd4 : (upd H3 wl (.lst (ivs ws'))) nd = some (.dK (kvN N)) := by rw [upd_ne nD.1]; exact hN3.d
          have hl4 : ∀ e ∈ N, (upd H3 wl (.lst (ivs ws'))) e.2.1 = some (.lst (ivs e.2.2)) := fun e he => by rw [upd_ne (nA e he).1]; exact hN3.l e he
          refine ⟨_, rfl, _, rfl, .inl ⟨rfl, _, SqL.of hwl3⟩, wl, _, _, rfl, rfl, hwl3, gl, ?_⟩
          rw [gd]
          refine ⟨nd, _, rfl, .inl ⟨kvN N, .inl (p : Int), .inl hnd4, rfl, hdv.symm⟩, e0.2.1, rfl, ⟨_, SqL.of (hl4 e0 he0)⟩, ?_⟩
          have hfw3 : fd ≠ wl := hfw
          refine for_dl (K := K) (xs := ivs e0.2.2) (ds := e0.2.2) (by simp [ivs]) (fun pre σ H' => ∃ v3 S2 ws2 kvs2, σ = [some (.ref a), some (.int b), some (.ref nd), v3, v4, v5, some (.ref fd), some (.ref wl), none] ∧ Same H H' ∧ NearAt H H' nd N ∧ H' fd = some (.dK kvs2) ∧ FoundK kvs2 S2 ∧ H' wl = some (.lst (ivs ws2)) ∧
            S2.Nodup ∧ b ∈ S2 ∧ (∀ p ∈ S2, HasN N p) ∧ (∀ p ∈ ws2, p ∈ S2) ∧ (∀ p' ∈ S2, p' ∈ ws2 ∨ p' = p ∨ ∀ q, Adj W p' q → q ∈ S2) ∧ (∀ q ∈ pre, q ∈ S2) ∧ S2.length + ws'.length = S.length + ws2.length ∧ S.length ≤ S2.length ∧ ws2.length ≤ S2.length)
            ⟨v3, S, ws', kvs, rfl, same_mut s3 hwl0, ⟨hnd4, hl4, hN.k, hN.a, hN.f⟩, by rw [upd_ne hfw]; exact hfd3, hF3, upd_same, c1, c2, c3, fun p hp => c4 p (by simp [hp]), ?_, by simp, rfl, Nat.le_refl _, by simp at c7; omega⟩ ?_ ?_ ?_
          · intro p' hp'
            rcases c5 p' hp' with h | h
            · rcases List.mem_append.mp h with h | h
              · exact .inl h
              · exact .inr (.inl (List.mem_singleton.mp h))
            · exact .inr (.inr h)
          · rintro pre σ H' ⟨_, _, _, _, _, _, hN', _⟩
            exact SqL.of (hN'.l e0 he0)
          · rintro pre r post x σ H' e hx ⟨v3, S2, ws2, kvs2, rfl, s4, hN4, hfd4, hF4, hwl4, g1, g2, g3, g4, g5, g6, g7, g8, g9⟩
            have hxr : x = .int r := by
              unfold ivs at hx
              rw [e, List.map_append, List.getElem?_append_right (by simp)] at hx
              simpa using hx.symm
            subst hxr
            have hre : r ∈ e0.2.2 := by rw [e]; simp
            have hadj : Adj W p r := (hin p r).mp ⟨e0, he0, hp0, hre⟩
            have sub2 : S2.length ≤ N.length := by
              have h1 : S2 ⊆ N.map (·.1) := fun x hx => by
                obtain ⟨e, he, h⟩ := g3 x hx
                exact List.mem_map.mpr ⟨e, he, h⟩
              have := g1.length_le_of_subset h1
              rwa [List.length_map] at this
            refine ⟨_, rfl, _, rfl, fd, _, rfl, .inl ⟨kvs2, .inl (r : Int), .inl hfd4, rfl, rfl⟩, _, rfl, ?_⟩
            rw [hF4.2 r]
            by_cases hr2 : r ∈ S2
            · rw [decide_eq_true hr2]
              refine iteF ?_
              refine ⟨_, S2, ws2, kvs2, rfl, s4, hN4, hfd4, hF4, hwl4, g1, g2, g3, g4, g5, ?_, g7, g8, g9⟩
              intro q hq
              rcases List.mem_append.mp hq with hq | hq
              · exact g6 q hq
              · rw [List.mem_singleton.mp hq]; exact hr2
            · rw [decide_eq_false hr2]
              refine iteT ?_
              refine ⟨_, rfl, _, rfl, fd, _, rfl, DPut.k (k := .inl (r : Int)) hfd4 (sz1M (by rw [hF4.1]; omega)), ?_⟩
              have hwl5 : (upd H' fd (.dK (putK kvs2 (.inl (r : Int)) (.bl true)))) wl = some (.lst (ivs ws2)) := by rw [upd_ne hfw.symm]; exact hwl4
              refine ⟨_, rfl, .inl ⟨rfl, _, SqL.of hwl5⟩, _, rfl, wl, _, _, rfl, rfl, hwl5, sz1M (by simp [ivs]; omega), ?_⟩
              refine ⟨_, S2 ++ [r], ws2 ++ [r], _, rfl, same_mut (same_mut s4 hfd0) hwl0, ⟨?_, ?_, hN.k, hN.a, hN.f⟩, ?_, hF4.put hr2 (.bl true), ?_, ?_, by simp [g2], ?_, ?_, ?_, ?_, ?_, ?_, ?_⟩
              · rw [upd_ne nD.1, upd_ne nD.2]; exact hN4.d
              · intro e he
                rw [upd_ne (nA e he).1, upd_ne (nA e he).2]
                exact hN4.l e he
              · rw [upd_ne hfw]; exact upd_same
              · rw [upd_same]; simp [ivs]
              · rw [List.nodup_append]
                refine ⟨g1, by simp, ?_⟩
                intro x hx y hy exy
                rw [List.mem_singleton.mp hy] at exy
                exact hr2 (exy ▸ hx)
              · intro x hx
                rcases List.mem_append.mp hx with hx | hx
                · exact g3 x hx
                · rw [List.mem_singleton.mp hx]
                  exact (keys r).mpr (.inr ⟨p, hadj.symm⟩)
              · intro x hx
                rcases List.mem_append.mp hx with hx | hx
                · exact List.mem_append_left _ (g4 x hx)
                · exact List.mem_append_right _ hx
              · intro x hx
                rcases List.mem_append.mp hx with hx | hx
                · rcases g5 x hx with h | h | h
                  · exact .inl (List.mem_append_left _ h)
                  · exact .inr (.inl h)
                  · exact .inr (.inr fun q hq => List.mem_append_left _ (h q hq))
                · exact .inl (List.mem_append_right _ hx)
              · intro q hq
                rcases List.mem_append.mp hq with hq | hq
                · exact List.mem_append_left _ (g6 q hq)
                · exact List.mem_append_right _ hq
              · simp; omega
              · simp; omega
              · simp; omega
          · rintro σ H' ⟨v3, S2, ws2, kvs2, rfl, s4, hN4, hfd4, hF4, hwl4, g1, g2, g3, g4, g5, g6, g7, g8, g9⟩
            have sub2 : S2.length ≤ N.length := by
              have h1 : S2 ⊆ N.map (·.1) := fun x hx => by
                obtain ⟨e, he, h⟩ := g3 x hx
                exact List.mem_map.mpr ⟨e, he, h⟩
              have := g1.length_le_of_subset h1
              rwa [List.length_map] at this
            refine ⟨_, ?_, v3, S2, ws2, kvs2, rfl, s4, hN4, hfd4, hF4, hwl4, g1, g2, g3, g4, ?_, rfl, sub2, g9⟩
            · simp only [List.length_append, List.length_singleton]
              omega
            · intro p' hp'
              rcases g5 p' hp' with h | h | h
              · exact .inl h
              · right
                intro q hq
                rw [h] at hq
                obtain ⟨e1, he1, hp1, hq1⟩ := (hin p q).mpr hq
                have : e1 = e0 := nodup_inj hN.k he1 he0 (by rw [hp1, hp0])
                rw [this] at hq1
                exact g6 q hq1
              · exact .inr h
end
end Rb
/-! Places numbered. -/
namespace Rb
set_option linter.all false
set_option maxRecDepth 100000
set_option maxHeartbeats 4000000
open PySem PySem.Spec PyProof.Rows L2
/-- a dict from places to their numbers in ws -/
def NumK (kvs : List (L2.Key × V)) (ws : List Nat) : Prop := kvs.length = ws.length ∧ ∀ p : Nat, valV kvs (.inl (p : Int)) = if p ∈ ws then some (.int (ws.idxOf p : Nat)) else none
theorem NumK.put {kvs : List (L2.Key × V)} {ws : List Nat} (h : NumK kvs ws) {p : Nat} (hp : ¬ p ∈ ws) : NumK (putK kvs (.inl (p : Int)) (.int (ws.length : Nat))) (ws ++ [p]) := by
  have hn : valV kvs (.inl (p : Int)) = none := by rw [h.2 p, if_neg hp]
  refine ⟨by rw [putK_new _ hn, List.length_append, List.length_append, h.1]; rfl, ?_⟩
  intro q
  rw [valV_put]
  by_cases e : q = p
  · subst e
    rw [if_pos rfl, if_pos (by simp)]
    rw [List.idxOf_append, if_neg hp]
    simp
  · have : ¬ ((Sum.inl (q : Int) : L2.Key) = Sum.inl (p : Int)) := fun z => e (by have := Sum.inl.inj z; omega)
    rw [if_neg this, h.2 q]
    by_cases hq : q ∈ ws
    · rw [if_pos hq, if_pos (by simp [hq]), List.idxOf_append, if_pos hq]
    · rw [if_neg hq, if_neg (by simp [hq, e])]
def endsL (W : List Way) (b : Nat) : List Nat := b :: W.flatMap fun w => [w.1, w.2.2]
theorem endsL_len (W : List Way) (b : Nat) : (endsL W b).length = 1 + 2 * W.length := by
  unfold endsL
  rw [List.length_cons]
  have : (W.flatMap fun w => [w.1, w.2.2]).length = 2 * W.length := by
    induction W with
    | nil => rfl
    | cons w W ih =>
      rw [List.flatMap_cons, List.length_append, ih]
      simp
      omega
  omega
theorem step_ends {W : List Way} {b p q : Nat} {x : Lt} (h : St W p x q) : q ∈ endsL W b := by
  unfold endsL
  refine List.mem_cons_of_mem _ (List.mem_flatMap.mpr ?_)
  unfold St at h
  split at h
  · exact ⟨_, h, by simp⟩
  · exact ⟨_, h, by simp⟩
theorem rowOf_snoc (δ : Lt → Option Nat) (ls : List Lt) (x : Lt) (Q : List Nat) : rowOf δ (ls ++ [x]) Q = match δ x with
    | some g => if g ∈ rowOf δ ls Q then rowOf δ ls Q else rowOf δ ls Q ++ [g]
    | none => rowOf δ ls Q := by
  unfold rowOf
  rw [List.foldl_append]
  rfl
section
variable {P : Program} {w : World} {K : PySem.W.Frag} {mg : Str → Option Value} {base : Heap}
def spNumbered (K : PySem.W.Frag) : Sp := fun vs H Q _ => ∃ (ds : List (Fin 26)) (a b : Nat) (W : List Way), vs = [.str (dS ds), .ref a, .int b] ∧ WaysAt K H a W ∧ W.length ≤ 100000 ∧ ds.length ≤ 26 ∧ Det W ∧ (∀ p x q, St W p x q → x ∈ lets ds) ∧
  ∀ p t R vs' H', H p = none → Same H H' → H' p = some (.tup [.int (R.length : Nat), .ref t]) → H' t = some (.tup vs') → DpAll K H' vs' ((wsort (numb R W)).map encW) → Bfs (stepsD W) (lets ds) 0 [b] R → Q (.ref p) H'
theorem ok_numbered (T : Top K mg) : FnOk P w K mg base CX0 3 T.d_numbered.f T.d_numbered.d ["deeds", "ways", "base"] (spNumbered K) := by
  refine T.d_numbered.F.ok sc_numbered (fun vs H Q E h => ?_) (fun cdv A outer s H vs Q E hr h => ?_)
  · obtain ⟨ds, a, b, W, rfl, _⟩ := h
    rfl
  · obtain ⟨ds, a, b, W, rfl, hW, hlen, hds, hDet, hL, q⟩ := h
    have hu := hu_of hr
    refine ⟨_,
      (pss_cons (ps_set (i := 3) sc_numbered.nd rfl (Or.inl rfl) (pe_call (ok_steps_of T) (hr.mono (by decide)) (by rfl) T.d_steps_of.g T.d_steps_of.F.kp T.d_steps_of.b .nil pass0 (pa_cons (pv 1) pa_nil)))
      (pss_cons (ps_set (i := 4) sc_numbered.nd rfl (Or.inr rfl) (pe_disp (pps_cons (pv 2) pe_int pps_nil) (by rfl) (by rfl) (fun z => by cases z) (by decide)))
      (pss_cons (ps_set (i := 5) sc_numbered.nd rfl (Or.inl rfl) (pe_lst (pa_cons (pv 2) pa_nil)))
      (pss_cons (ps_set (i := 6) sc_numbered.nd rfl (Or.inl rfl) pe_int)
      (pss_cons (ps_while PassesOwn.never (pt_cmpR op_lt (pv 6) (pe_callB call_len_seq (by rfl) T.z_len (by decide +kernel) (pa_cons (pv 5) pa_nil)) (nomark _))
      (pss_cons (ps_for PassesOwn.never rfl (pi_tup (pe_call (ok_letters_over T) (hr.mono (by decide)) (by rfl) T.d_letters_over.g T.d_letters_over.F.kp T.d_letters_over.b .nil pass0 (pa_cons (pv 0) pa_nil))) (pg_name (i := 7) sc_numbered.nd rfl (Or.inl rfl))
      (pss_cons (ps_set (i := 8) sc_numbered.nd rfl (Or.inl rfl) (pe_dget1 hu (pv 3) (pe_tup (pa_cons (pe_ix ix_list (pv 5) (pv 6) (fun _ _ => rfl)) (pa_cons (pv 7) pa_nil))) ⟨rfl, rfl, rfl, rfl⟩))
      (pss_one (ps_if (PW.pt (pw_and (pt_cmpR op_notN (pv 8) pe_non (nomark _)) (pw_and1 (pt_cmp (pc_dnotin hu (pv 8) (pv 4))))))
      (pss_cons (ps_dput hu (pv 4) (pv 8) (pe_callB call_len_seq (by rfl) T.z_len (by decide +kernel) (pa_cons (pv 5) pa_nil)) rfl)
      (pss_one (ps_expr (pe_bm PySem.F.plainAttrs_list PySem.F.slot_list_append PySem.F.type_list_append mt_append (pv 5) (pa_cons (pv 8) pa_nil)))))
      pss_nil))))
      (pss_one (ps_aug (i := 6) sc_numbered.nd rfl (Or.inl rfl) pe_int ip_add))))
      (pss_cons (ps_setLc (i := 9) (own := [("place", 10), ("deed", 11), ("goal", 8)]) (g := (gTup K 3 (gCons (gName 10) (gCons (gName 11) (gCons (gName 8) gNil))))) rfl sc_numbered.nd rfl rfl (sw_true rfl rfl rfl (by decide +kernel)) (pi_list (pv 1)) (blkOk_by (N := N_numbered) (sc := defScope s_numbered) (by decide +kernel)) (fun _ _ _ _ _ => (pg_tup (by rfl) (pgs_cons (pg_name (i := 10) sc_numbered.nd rfl (Or.inl rfl)) (pgs_cons (pg_name (i := 11) sc_numbered.nd rfl (Or.inl rfl)) (pgs_cons (pg_name (i := 8) sc_numbered.nd rfl (Or.inl rfl)) pgs_nil))))) (fun _ _ _ _ _ => (pts_one (pt_cmp (pc_din hu (pv 10) (pv 4))))) (fun _ _ _ _ _ => (pe_tup (pa_cons (pe_dget hu (pv 4) (pv 10) (fun _ _ => rfl)) (pa_cons (pv 11) (pa_cons (pe_dget hu (pv 4) (pv 8) (fun _ _ => rfl)) pa_nil))))))
      (pss_one (ps_ret (pe_tup (pa_cons (pe_callB call_len_seq (by rfl) T.z_len (by decide +kernel) (pa_cons (pv 5) pa_nil)) (pa_cons (pe_callTy call_tuple_of (by rfl) T.z_tuple (by decide +kernel) (pa_cons (pe_callB (cr_sortedW hr.units) (by rfl) T.z_sorted (by decide +kernel) (pa_cons (pv 9) pa_nil)) pa_nil)) pa_nil)))))))))))
      , ?_⟩
    obtain ⟨vs, hv, hD⟩ := id hW
    have hvl : vs.length = W.length := by rw [dp_len hD, List.length_map]
    refine ⟨_, rfl, a, W, rfl, ⟨vs, .inl hv, hD⟩, hlen, fun st skv H1 hst0 s1 hst hFk _ => ?_⟩
    intro nb hnb
    refine ⟨_, rfl, upd_same, [(.inl (b : Int), .int 0)], rfl, by simp, ?_⟩
    have ef : mergeK [] [((.inl (b : Int) : L2.Key), V.int 0)] = [(.inl (b : Int), .int 0)] := rfl
    rw [ef, upd_upd]
    refine ⟨_, rfl, (by show 1 ≤ sizeLine; decide), fun wl hwl => ?_⟩
    have s2 : Same H1 (upd H1 nb (.dK [(.inl (b : Int), .int 0)])) := same_new hnb
    have s3 := (s1.trans s2).trans (same_new hwl (o := .lst [.int b]))
    have hnw : nb ≠ wl := ne_of_none upd_same hwl
    have hnb0 : H nb = none := s1.free hnb
    have hwl1 : H1 wl = none := s2.free hwl
    have hwl0 : H wl = none := s1.free hwl1
    have hsw : st ≠ wl := ne_of_none hst hwl1
    have hsn : st ≠ nb := ne_of_none hst hnb
    have fN : NumK [((.inl (b : Int) : L2.Key), V.int 0)] [b] := by
      refine ⟨rfl, fun p => ?_⟩
      by_cases e : b = p
      · subst e
        rw [valV_pos rfl]
        simp
      · rw [valV_neg (fun z => e (by have := Sum.inl.inj z; omega))]
        simp [valV]
        exact fun z => e z.symm
    have sub : ∀ ws : List Nat, ws.Nodup → (∀ p ∈ ws, p ∈ endsL W b) → ws.length ≤ 1 + 2 * W.length := by
      intro ws h1 h2
      have := h1.length_le_of_subset (l₂ := endsL W b) h2
      rwa [endsL_len] at this
    refine while_w (fun m σ H' => ∃ at' ws kvs v7 v8, σ = [some (.str (dS ds)), some (.ref a), some (.int b), some (.ref st), some (.ref nb), some (.ref wl), some (.int (at' : Nat)), v7, v8, none, none, none] ∧ Same H H' ∧ H' st = some (.dT skv) ∧ H' nb = some (.dK kvs) ∧ NumK kvs ws ∧ H' wl = some (.lst (ivs ws)) ∧
        ws.Nodup ∧ (∀ p ∈ ws, p ∈ endsL W b) ∧ at' ≤ ws.length ∧ m = 2 + 2 * W.length - at' ∧ ∀ R, Bfs (stepsD W) (lets ds) at' ws R → Bfs (stepsD W) (lets ds) 0 [b] R) (2 + 2 * W.length) ?_ ?_
    · refine ⟨0, [b], _, none, none, rfl, s3, ?_, ?_, fN, upd_same, by simp, by simp [endsL], by simp, rfl, fun R h => h⟩
      · rw [upd_ne hsw, upd_ne hsn]
        exact hst
      · rw [upd_ne hnw]
        exact upd_same
    · rintro m σ H3 ⟨at', ws, kvs, v7, v8, rfl, s4, gst, gnb, gN, gwl, c1, c2, c3, rfl, c4⟩
      have hwl3 := sub ws c1 c2
      have el : ((ivs ws).length : Int) = (ws.length : Nat) := by simp [ivs]
      refine ⟨_, rfl, _, rfl, wl, _, rfl, .inl (SqL.of gwl), _, _, rfl, rfl, _, rfl, ?_⟩
      show if decide ((at' : Int) < ((ivs ws).length : Int)) = true then _ else _
      rw [el]
      by_cases hat : at' < ws.length
      · rw [decide_eq_true (show ((at' : Nat) : Int) < (ws.length : Nat) by omega)]
        refine iteT ?_
        refine ⟨_, fun _ _ h => h, ?_⟩
        have hp : ws[at']? = some ws[at'] := List.getElem?_eq_getElem hat
        generalize ws[at'] = p at hp
        refine ⟨_, rfl, ds, rfl, hds, fun lt H4 hlt s5 glt => ?_⟩
        refine ⟨lt, rfl, ⟨_, SqT.of glt⟩, ?_⟩
        have hltw : ∀ {b' : Addr} {o : HO}, H3 b' = some o → b' ≠ lt := fun h => ne_of_none h hlt
        refine for_dt (K := K) (xs := (lets ds).map fun x => .str (lS x)) (ds := lets ds) (by simp) (fun pre σ H' => ∃ kvs v7 v8, σ = [some (.str (dS ds)), some (.ref a), some (.int b), some (.ref st), some (.ref nb), some (.ref wl), some (.int (at' : Nat)), v7, v8, none, none, none] ∧ Same H H' ∧ H' lt = some (.tup ((lets ds).map fun x => .str (lS x))) ∧ H' st = some (.dT skv) ∧ H' nb = some (.dK kvs) ∧ NumK kvs (rowOf (stepsD W p) pre ws) ∧ H' wl = some (.lst (ivs (rowOf (stepsD W p) pre ws))) ∧
            (∀ p' ∈ rowOf (stepsD W p) pre ws, p' ∈ endsL W b))
          ⟨kvs, v7, v8, rfl, s4.trans s5, glt, s5 _ _ gst, s5 _ _ gnb, gN, s5 _ _ gwl, c2⟩ ?_ ?_ ?_
        · rintro pre σ H' ⟨_, _, _, _, _, h, _⟩
          exact SqT.of h
        · rintro pre x post v σ H' e hx ⟨kv2, v7, v8, rfl, s6, g1, g2, g3, g4, g5, g6⟩
          have hvx : v = .str (lS x) := by
            rw [e, List.map_append, List.getElem?_append_right (by simp)] at hx
            simpa using hx.symm
          subst hvx
          obtain ⟨TT, hTT⟩ := rowOf_pre (δ := stepsD W p) (ls := pre) (Q := ws)
          have hnd2 := rowOf_nodup (δ := stepsD W p) (ls := pre) c1
          have hl2 := sub _ hnd2 g6
          rw [rowOf_snoc]
          generalize hR : rowOf (stepsD W p) pre ws = R2 at *
          have hp2 : R2[at']? = some p := by rw [hTT, List.getElem?_append_left hat]; exact hp
          have a1 : atI (ivs R2) (at' : Int) = some (.int p) := atI_nat (by unfold ivs; rw [List.getElem?_map, hp2]; rfl)
          refine ⟨_, rfl, st, rfl, .inr ⟨_, .inl g2⟩, _, rfl, _, rfl, wl, _, _, _, rfl, rfl, SqL.of g5, a1, _, rfl, (by show 2 ≤ sizeLine; decide), fun k hk => ?_⟩
          have sk : Same H' (upd H' k (.tup [.int p, .str (lS x)])) := same_new hk
          refine ⟨_, DGet.t (k := keyL p x) (sk _ _ g2) upd_same, ?_⟩
          rw [hFk p x]
          cases hg : stepsD W p x with
          | none =>
            refine ⟨_, rfl, rfl, _, rfl, ?_⟩
            refine iteF ?_
            exact ⟨kv2, _, _, rfl, s6.trans sk, sk _ _ g1, sk _ _ g2, sk _ _ g3, g4, sk _ _ g5, g6⟩
          | some g =>
            refine ⟨_, rfl, rfl, _, rfl, ?_⟩
            refine iteT ?_
            refine ⟨_, rfl, _, rfl, nb, _, rfl, DGet.k (k := .inl (g : Int)) (sk _ _ g3), _, rfl, ?_⟩
            have gend : g ∈ endsL W b := step_ends (stepsD_sound W hg)
            simp only
            by_cases hgR : g ∈ R2
            · have e1 : (valV kv2 (.inl (g : Int))).isSome = true := by rw [g4.2 g, if_pos hgR]; rfl
              rw [e1, if_pos hgR]
              refine iteF ?_
              exact ⟨kv2, _, _, rfl, s6.trans sk, sk _ _ g1, sk _ _ g2, sk _ _ g3, g4, sk _ _ g5, g6⟩
            · have e1 : (valV kv2 (.inl (g : Int))).isSome = false := by rw [g4.2 g, if_neg hgR]; rfl
              rw [e1, if_neg hgR]
              refine iteT ?_
              have el2 : ((ivs R2).length : Int) = (R2.length : Nat) := by simp [ivs]
              refine ⟨_, rfl, wl, _, rfl, .inl (SqL.of (sk _ _ g5)), ?_⟩
              rw [el2]
              refine ⟨_, rfl, _, rfl, nb, _, rfl, DPut.k (k := .inl (g : Int)) (sk _ _ g3) (sz1M (by rw [g4.1]; omega)), ?_⟩
              have g5' : (upd (upd H' k (.tup [.int p, .str (lS x)])) nb (.dK (putK kv2 (.inl (g : Int)) (.int (R2.length : Nat))))) wl = some (.lst (ivs R2)) := by rw [upd_ne hnw.symm]; exact sk _ _ g5
              refine ⟨_, rfl, .inl ⟨rfl, _, SqL.of g5'⟩, _, rfl, wl, _, _, rfl, rfl, g5', sz1M (by simp [ivs]; omega), ?_⟩
              have ltn : lt ≠ nb := (hltw gnb).symm
              have ltw : lt ≠ wl := (hltw gwl).symm
              refine ⟨_, _, _, rfl, same_mut (same_mut (s6.trans sk) hnb0) hwl0, ?_, ?_, ?_, g4.put hgR, ?_, ?_⟩
              · rw [upd_ne ltw, upd_ne ltn]; exact sk _ _ g1
              · rw [upd_ne hsw, upd_ne hsn]; exact sk _ _ g2
              · rw [upd_ne hnw]; exact upd_same
              · rw [upd_same]; simp [ivs]
              · intro p' hp'
                rcases List.mem_append.mp hp' with hp' | hp'
                · exact g6 p' hp'
                · rw [List.mem_singleton.mp hp']; exact gend
        · rintro σ H' ⟨kv2, v7, v8, rfl, s6, g1, g2, g3, g4, g5, g6⟩
          obtain ⟨TT, hTT⟩ := rowOf_pre (δ := stepsD W p) (ls := lets ds) (Q := ws)
          refine ⟨_, rfl, _, _, rfl, rfl, ?_⟩
          have ea : ((at' : Nat) : Int) + 1 = ((at' + 1 : Nat) : Int) := by omega
          refine ⟨_, ?_, at' + 1, rowOf (stepsD W p) (lets ds) ws, kv2, v7, v8, by rw [← ea]; rfl, s6, g2, g3, g4, g5, rowOf_nodup c1, g6, ?_, rfl, fun R h => c4 R (.more hp h)⟩
          · omega
          · rw [hTT, List.length_append]; omega
      · rw [decide_eq_false (show ¬ ((at' : Nat) : Int) < (ws.length : Nat) by omega)]
        refine iteF ?_
        have hB : Bfs (stepsD W) (lets ds) 0 [b] ws := c4 ws (.done (by omega))
        obtain ⟨e1, e2, _, e4⟩ := bfs_end hB (by simp) (by intro j p x g hj; omega)
        have hcl : Closed ws W := fun p x q hp hs => e4 p x q hp (hL _ _ _ hs) ((fits_steps hDet p x q).mpr hs)
        refine ⟨_, rfl, a, rfl, ⟨_, SqL.of (s4 _ _ hv)⟩, fun D hDn => ?_⟩
        refine lc_dl (K := K) (xs := vs) (ds := W) hvl (fun pre H' => ∃ acc, Same H3 H' ∧ H' D = some (.lst acc) ∧ acc.length ≤ pre.length ∧ DpAll K H' acc ((numb ws pre).map encW)) ⟨[], same_new hDn, upd_same, by simp, .nil⟩ ?_ ?_ ?_
        · rintro pre H' ⟨_, s5, _⟩
          exact SqL.of (s5 _ _ (s4 _ _ hv))
        · rintro pre w post x H' e hx ⟨acc, s5, hacc, hal, had⟩
          obtain ⟨t, rfl, ht⟩ := way_at (dpAll_same (s4.trans s5) hD) e hx
          have hwW : w ∈ W := by rw [e]; simp
          obtain ⟨p0, d0, q0⟩ := w
          simp only at ht
          have gnb5 := s5 _ _ gnb
          refine ⟨t, _, rfl, ht, rfl, _, _, rfl, _, _, rfl, _, _, rfl, rfl, ?_⟩
          refine ⟨rfl, ?_⟩
          refine ⟨_, rfl, _, rfl, nb, _, rfl, DGet.k (k := .inl (p0 : Int)) gnb5, _, rfl, ?_⟩
          by_cases hp0 : p0 ∈ ws
          · have e5 : (valV kvs (.inl (p0 : Int))) = some (.int (ws.idxOf p0 : Nat)) := by rw [gN.2 p0, if_pos hp0]
            have hq0 : q0 ∈ ws := hcl p0 ⟨d0, false⟩ q0 hp0 (by simpa [St] using hwW)
            have e6 : (valV kvs (.inl (q0 : Int))) = some (.int (ws.idxOf q0 : Nat)) := by rw [gN.2 q0, if_pos hq0]
            rw [e5]
            refine iteT ?_
            refine ⟨_, rfl, _, rfl, nb, _, rfl, .inl ⟨kvs, .inl (p0 : Int), .inl gnb5, rfl, e5.symm⟩, _, rfl, _, rfl, _, rfl, nb, _, rfl, .inl ⟨kvs, .inl (q0 : Int), .inl gnb5, rfl, e6.symm⟩, (by show 3 ≤ sizeLine; decide), fun k hk => ?_⟩
            have hkD : D ≠ k := ne_of_none hacc hk
            have hacc2 : (upd H' k (.tup [.int (ws.idxOf p0 : Nat), .str (lS ⟨d0, false⟩), .int (ws.idxOf q0 : Nat)])) D = some (.lst acc) := by rw [upd_ne hkD]; exact hacc
            have hpre : pre.length < 100000 := by
              have := congrArg List.length e
              simp at this
              omega
            refine ⟨acc, hacc2, sz1M (by omega), acc ++ [.ref k], same_mut (s5.trans (same_new hk)) hDn, upd_same, by simp; omega, ?_⟩
            have e7 : numb ws (pre ++ [(p0, d0, q0)]) = numb ws pre ++ [(ws.idxOf p0, d0, ws.idxOf q0)] := by
              unfold numb
              rw [List.filter_append, List.map_append]
              simp [hp0]
            rw [e7, List.map_append]
            have k2 : KeepT (upd H' k (.tup [.int (ws.idxOf p0 : Nat), .str (lS ⟨d0, false⟩), .int (ws.idxOf q0 : Nat)])) (upd (upd H' k (.tup [.int (ws.idxOf p0 : Nat), .str (lS ⟨d0, false⟩), .int (ws.idxOf q0 : Nat)])) D (.lst (acc ++ [.ref k]))) := KeepT.put (.inr (by rw [hacc2]; exact True.intro))
            exact dp_snoc (dp_of3 (k2.sqT (SqT.of upd_same))) (dpAll_keep k2 (dpAll_same (same_new hk) had) (flat_ways _))
          · have e5 : (valV kvs (.inl (p0 : Int))) = none := by rw [gN.2 p0, if_neg hp0]
            rw [e5]
            refine iteF ?_
            have e7 : numb ws (pre ++ [(p0, d0, q0)]) = numb ws pre := by
              unfold numb
              rw [List.filter_append, List.map_append]
              simp [hp0]
            rw [e7]
            exact ⟨acc, s5, hacc, by simp; omega, had⟩
        · rintro H' ⟨acc, s5, hacc, hal, had⟩
          have gwl5 := s5 _ _ gwl
          refine ⟨_, rfl, wl, _, rfl, .inl (SqL.of gwl5), ?_⟩
          refine ⟨_, rfl, D, acc, numb ws W, rfl, SqL.of hacc, had, fun so vs' hso hdd => ?_⟩
          refine ⟨so, vs', rfl, .inl ⟨SqL.of upd_same, fun tp htp => ?_⟩⟩
          refine ⟨(by show 2 ≤ sizeLine; decide), fun rp hrp => ?_⟩
          have t1 : Same H' (upd H' so (.lst vs')) := same_new hso
          have t2 := t1.trans (same_new htp (o := .tup vs'))
          have t3 := t2.trans (same_new hrp (o := .tup [.int ((ivs ws).length : Nat), .ref tp]))
          have htr : tp ≠ rp := ne_of_none upd_same hrp
          refine q rp tp ws vs' _ ?_ ((s4.trans s5).trans t3) ?_ ?_ ?_ hB
          · exact ((s4.trans s5).trans t2).free hrp
          · rw [upd_same, el]
          · rw [upd_ne htr, upd_same]
          · exact dpAll_keep (KeepT.of t3) hdd (by
              have := flat_ways (wsort (numb ws W))
              exact this)
end
end Rb
/-! Trimmed ways; folded ways. -/
namespace Rb
set_option linter.all false
set_option maxRecDepth 100000
set_option maxHeartbeats 4000000
open PySem PySem.Spec PyProof.Rows L2
section
variable {P : Program} {w : World} {K : PySem.W.Frag} {mg : Str → Option Value} {base : Heap}
/-- numbered ways: a tuple of the size and of the ways in order -/
def NumAt (K : PySem.W.Frag) (H : Hp) (p : Addr) (w : WebD) : Prop := ∃ t vs, H p = some (.tup [.int (w.size : Nat), .ref t]) ∧ H t = some (.tup vs) ∧ DpAll K H vs (w.ways.map encW)
def spTrimmed (K : PySem.W.Frag) : Sp := fun vs H Q _ => ∃ (ds : List (Fin 26)) (a b : Nat) (W : List Way), vs = [.str (dS ds), .ref a, .int b] ∧ WaysAt K H a W ∧ W.length ≤ 100000 ∧ ds.length ≤ 26 ∧ Right (lets ds) W b ∧
  ∀ p R H', H p = none → Same H H' → NumAt K H' p (webOf R W) → Bfs (stepsD W) (lets ds) 0 [b] R → Q (.ref p) H'
theorem ok_trimmed (T : Top K mg) : FnOk P w K mg base CX0 4 T.d_trimmed.f T.d_trimmed.d ["deeds", "ways", "base"] (spTrimmed K) := by
  refine T.d_trimmed.F.ok sc_trimmed (fun vs H Q E h => ?_) (fun cdv A outer s H vs Q E hr h => ?_)
  · obtain ⟨ds, a, b, W, rfl, _⟩ := h
    rfl
  · obtain ⟨ds, a, b, W, rfl, hW, hlen, hds, hR, q⟩ := h
    have hu := hu_of hr
    refine ⟨_,
      (pss_one (ps_ret (pe_call (ok_numbered T) (hr.mono (by decide)) (by rfl) T.d_numbered.g T.d_numbered.F.kp T.d_numbered.b .nil pass0 (pa_cons (pv 0) (pa_cons (pe_call (ok_without_tails T) (hr.mono (by decide)) (by rfl) T.d_without_tails.g T.d_without_tails.F.kp T.d_without_tails.b .nil pass0 (pa_cons (pe_call (ok_hanging T) (hr.mono (by decide)) (by rfl) T.d_hanging.g T.d_hanging.F.kp T.d_hanging.b .nil pass0 (pa_cons (pv 1) (pa_cons (pv 2) pa_nil))) (pa_cons (pv 2) pa_nil))) (pa_cons (pv 2) pa_nil))))))
      , ?_⟩
    refine ⟨_, rfl, _, rfl, _, rfl, a, b, W, rfl, hW, hlen, looped_hangs hR.loop, fun p H1 hp s1 hW1 => ?_⟩
    refine ⟨_, rfl, p, b, W, rfl, hW1, hlen, fun p2 V H2 s2 hV hT _ => ?_⟩
    have eV : V = W := tr_none (looped_no_tail hR.det hR.loop) hT
    subst eV
    refine ⟨_, rfl, ds, p2, b, V, rfl, hV, hlen, hds, hR.det, hR.lets, fun p3 t R vs' H3 hp3 s3 g1 g2 g3 hB => ?_⟩
    exact q p3 R H3 ((s1.trans s2).free hp3) ((s1.trans s2).trans s3) ⟨t, vs', g1, g2, g3⟩ hB
def spFolded (K : PySem.W.Frag) : Sp := fun vs H Q _ => ∃ (ds : List (Fin 26)) (n a b : Nat) (A : List Arr), vs = [.str (dS ds), .int n, .ref a, .int b] ∧ ArrsAt K H a A ∧ A.length ≤ 100000 ∧ n ≤ 100000 ∧ b < n ∧ (∀ w ∈ A, w.1 < n ∧ w.2.2 < n) ∧ ds.length ≤ 26 ∧
  (∀ S, Joined id (fwd A) S → Right (lets ds) (headWays S (fwd A)) (S b)) ∧
  ∀ p S R H', H p = none → Same H H' → Joined id (fwd A) S → Roots S → NumAt K H' p (webOf R (headWays S (fwd A))) → Bfs (stepsD (headWays S (fwd A))) (lets ds) 0 [S b] R → Q (.ref p) H'
theorem ok_folded_ways (T : Top K mg) : FnOk P w K mg base CX0 5 T.d_folded_ways.f T.d_folded_ways.d ["deeds", "many", "arrows", "base"] (spFolded K) := by
  refine T.d_folded_ways.F.ok sc_folded_ways (fun vs H Q E h => ?_) (fun cdv A outer s H vs Q E hr h => ?_)
  · obtain ⟨ds, n, a, b, A, rfl, _⟩ := h
    rfl
  · obtain ⟨ds, n, a, b, A, rfl, hA, hlen, hn, hb, hlt, hds, hR, q⟩ := h
    have hu := hu_of hr
    refine ⟨_,
      (pss_cons (ps_set (i := 4) sc_folded_ways.nd rfl (Or.inl rfl) (pe_call (ok_joined_places T) (hr.mono (by decide)) (by rfl) T.d_joined_places.g T.d_joined_places.F.kp T.d_joined_places.b .nil pass0 (pa_cons (pv 1) (pa_cons (pv 2) pa_nil))))
      (pss_one (ps_ret (pe_call (ok_trimmed T) (hr.mono (by decide)) (by rfl) T.d_trimmed.g T.d_trimmed.F.kp T.d_trimmed.b .nil pass0 (pa_cons (pv 0) (pa_cons (pe_call (ok_head_ways T) (hr.mono (by decide)) (by rfl) T.d_head_ways.g T.d_head_ways.F.kp T.d_head_ways.b .nil pass0 (pa_cons (pv 4) (pa_cons (pe_call (ok_forward_ways T) (hr.mono (by decide)) (by rfl) T.d_forward_ways.g T.d_forward_ways.F.kp T.d_forward_ways.b .nil pass0 (pa_cons (pv 2) pa_nil)) pa_nil))) (pa_cons (pe_meth (pv 4) T.k_Places.cl T.m_Places_head.m (ok_Places_head T) (hr.mono (by decide)) T.m_Places_head.b .nil pass0 (pa_cons (pv 3) pa_nil)) pa_nil)))))))
      , ?_⟩
    refine ⟨_, rfl, _, rfl, n, a, A, rfl, hA, hlen, hn, hlt, fun p l S H1 hp hl hP1 s1 hJ => ?_⟩
    refine ⟨_, rfl, _, rfl, _, rfl, a, A, rfl, hA.same s1, hlen, fun aw H2 haw s2 hW => ?_⟩
    have hP2 := hP1.same s2
    have hal : aw ≠ l := by
      rintro rfl
      obtain ⟨_, _, _, _, _, g, _⟩ := hP1
      rw [g] at haw
      cases haw
    have hbnd : ∀ w ∈ fwd A, w.1 < n ∧ w.2.2 < n := by
      intro w hw
      unfold fwd at hw
      obtain ⟨x, hx, rfl⟩ := List.mem_map.mp hw
      have := hlt x hx
      unfold fwd1
      split
      · exact ⟨this.2, this.1⟩
      · exact this
    have hfl : (fwd A).length ≤ 100000 := by unfold fwd; rw [List.length_map]; exact hlen
    have sm : ∀ {H4 H5 : Hp}, Same H H4 → Upto [l] H4 H5 → Same H H5 := fun s u b o hb => u _ _ (s _ _ hb) (by simpa using ne_of_none hb hl)
    refine ⟨p, l, n, aw, S, fwd A, rfl, hP2, hW, hal, hfl, hbnd, fun q2 H3 hq2 hP3 u3 hW3 => ?_⟩
    have hql : q2 ≠ l := by
      rintro rfl
      obtain ⟨_, _, _, _, _, g, _⟩ := hP2
      rw [g] at hq2
      cases hq2
    obtain ⟨dx, gi⟩ : ∃ dx, H3 p = some (.ins T.C_Places dx [("heads", .ref l)]) := by
      obtain ⟨_, _, dx, _, g, _⟩ := hP3
      exact ⟨dx, g⟩
    refine ⟨_, rfl, p, dx, _, rfl, gi, rfl, _, rfl, p, l, n, b, S, rfl, hP3, hb, fun H4 hP4 u4 => ?_⟩
    have hml : Mut (H3 l) := by
      obtain ⟨_, _, _, _, _, g, _⟩ := hP3
      rw [g]
      exact True.intro
    have k4 : KeepT H3 H4 := keep_upto u4 (by intro b hb; rw [List.mem_singleton.mp hb]; exact hml)
    have hW4 : WaysAt K H4 q2 (headWays S (fwd A)) := hW3.upto u4 k4 (by simpa using hql)
    have s4 : Same H H4 := sm (sm (s1.trans s2) u3) u4
    refine ⟨ds, q2, S b, _, rfl, hW4, Nat.le_trans (headWays_len _ _) hfl, hds, hR S hJ, fun p3 R H5 hp3 s5 hN hB => ?_⟩
    exact q p3 S R H5 (s4.free hp3) (s4.trans s5) hJ hP1.1 hN hB
end
end Rb
/-! Chains; rows without pairs. -/
namespace Rb
set_option linter.all false
set_option maxRecDepth 100000
set_option maxHeartbeats 4000000
open PySem PySem.Spec PyProof.Rows L2
theorem chainA_step (p l f : Nat) (x : Lt) (r : Row) : chainA p l f (x :: r) = (p, x, if r = [] then l else f) :: chainA (if r = [] then l else f) l (f + 1) r := by
  cases r with
  | nil => rfl
  | cons y r => rfl
theorem push_rev_cons {k : Row} {y x : Lt} : push (y :: k) x = if y = x.inv then k else x :: y :: k := rfl
/-- rows joined -/
theorem join_rowsS : ∀ rs : List Row, Str.join Str.empty (rs.map rS) = rS rs.flatten
  | [] => rfl
  | [r] => by
    show rS r = _
    rw [List.flatten_cons, List.flatten_nil, List.append_nil]
  | r :: r' :: rs => by
    have ih := join_rowsS (r' :: rs)
    show rS r ++ rS [] ++ Str.join Str.empty ((r' :: rs).map rS) = _
    rw [ih, rS_append, rS_append, List.append_nil]
    rfl
theorem join_rows (rs : List Row) : Txt.join Str.empty (rs.map rS) = rS rs.flatten := by rw [TL.join_eq, join_rowsS]
theorem flat_ones (r : Row) : (r.map fun x => [x]).flatten = r := by
  induction r with
  | nil => rfl
  | cons x r ih => rw [List.map_cons, List.flatten_cons, ih]; rfl
theorem join_row (r : Row) : Txt.join Str.empty (r.map lS) = rS r := by
  have h := join_rows (r.map fun x => [x])
  rw [flat_ones, List.map_map] at h
  exact h
theorem sum_row (r : Row) : ((r.map lS).map (·.length)).sum = r.length := by
  induction r with
  | nil => rfl
  | cons x r ih =>
    rw [List.map_cons, List.map_cons, List.sum_cons, ih, List.length_cons]
    show 1 + r.length = _
    omega
section
variable {P : Program} {w : World} {K : PySem.W.Frag} {mg : Str → Option Value} {base : Heap}
def spChain (K : PySem.W.Frag) : Sp := fun vs H Q _ => ∃ (r : Row) (p l f : Nat), vs = [.str (rS r), .int p, .int l, .int f] ∧ r.length ≤ 100000 ∧ ∀ q H', H q = none → Same H H' → ArrsAt K H' q (chainA p l f r) → Q (.ref q) H'
theorem ok_chain (T : Top K mg) : FnOk P w K mg base CX0 1 T.d_chain.f T.d_chain.d ["row", "first", "last", "fresh"] (spChain K) := by
  refine T.d_chain.F.ok sc_chain (fun vs H Q E h => ?_) (fun cdv A outer s H vs Q E hr h => ?_)
  · obtain ⟨r, p, l, f, rfl, _⟩ := h
    rfl
  · obtain ⟨r, p, l, f, rfl, hlen, q⟩ := h
    have hu := hu_of hr
    refine ⟨_,
      (pss_cons (ps_set (i := 4) sc_chain.nd rfl (Or.inl rfl) (pe_lst pa_nil))
      (pss_cons (ps_set (i := 5) sc_chain.nd rfl (Or.inl rfl) (pv 1))
      (pss_cons (ps_for PassesOwn.never rfl (pi_enumS (by rfl) T.z_enumerate (pa_cons (pv 0) pa_nil)) (pg_tup (by rfl) (pgs_cons (pg_name (i := 6) sc_chain.nd rfl (Or.inl rfl)) (pgs_cons (pg_name (i := 7) sc_chain.nd rfl (Or.inl rfl)) pgs_nil)))
      (pss_cons (ps_set (i := 8) sc_chain.nd rfl (Or.inl rfl) (pe_op op_add (pv 3) (pv 6)))
      (pss_cons (ps_if (pt_cmpR op_eq (pv 6) (pe_op op_sub (pe_callB call_len_str (by rfl) T.z_len (by decide +kernel) (pa_cons (pv 0) pa_nil)) pe_int) (nomark _))
      (pss_one (ps_set (i := 8) sc_chain.nd rfl (Or.inl rfl) (pv 2)))
      pss_nil)
      (pss_cons (ps_expr (pe_bm PySem.F.plainAttrs_list PySem.F.slot_list_append PySem.F.type_list_append mt_append (pv 4) (pa_cons (pe_tup (pa_cons (pv 5) (pa_cons (pv 7) (pa_cons (pv 8) pa_nil)))) pa_nil)))
      (pss_one (ps_set (i := 5) sc_chain.nd rfl (Or.inl rfl) (pv 8)))))))
      (pss_one (ps_ret (pv 4))))))
      , ?_⟩
    refine ⟨(by show 0 ≤ sizeLine; decide), fun d hd => ?_⟩
    have s1 : Same H (upd H d (.lst [])) := same_new hd
    refine ⟨_, rfl, ?_⟩
    refine ⟨_, rfl, _, rfl, for_erow (r := r) (fun pre σ H' => ∃ (pl : Nat) (post : Row) (A : List Arr) (acc : List V) (v6 v7 v8 : Option V), σ = [some (.str (rS r)), some (.int p), some (.int l), some (.int f), some (.ref d), some (.int pl), v6, v7, v8] ∧ Same H H' ∧ H' d = some (.lst acc) ∧ acc.length = pre.length ∧ DpAll K H' acc (A.map encA) ∧
        r = pre ++ post ∧ chainA p l f r = A ++ chainA pl l (f + pre.length) post)
      ⟨p, r, [], [], none, none, none, rfl, s1, upd_same, rfl, .nil, rfl, rfl⟩ ?_ ?_⟩
    · rintro pre x post σ H' t e ⟨pl, post0, A, acc, v6, v7, v8, rfl, s2, hd2, hal, hD, e0, e1⟩ ht
      have ep : post0 = x :: post := List.append_cancel_left (e0.symm.trans e)
      subst ep
      have hpl : pre.length < r.length := by rw [e, List.length_append, List.length_cons]; omega
      have s3 := s2.trans (same_new ht (o := .tup [.int (pre.length : Nat), .str (lS x)]))
      have hdt : d ≠ t := ne_of_none hd2 ht
      have hd3 : (upd H' t (.tup [.int (pre.length : Nat), .str (lS x)])) d = some (.lst acc) := by rw [upd_ne hdt]; exact hd2
      have hD3 := dpAll_same (same_new ht (o := .tup [.int (pre.length : Nat), .str (lS x)])) hD
      refine ⟨t, _, rfl, SqT.of upd_same, rfl, _, _, rfl, _, _, rfl, rfl, ?_⟩
      refine ⟨_, rfl, _, rfl, _, _, rfl, rfl, ?_⟩
      have hsz : (rS r).length ≤ sizeLine := by rw [rS_len]; exact Nat.le_trans hlen (by decide)
      refine ⟨_, rfl, _, rfl, _, rfl, hsz, _, _, rfl, rfl, rfl, _, rfl, ?_⟩
      have step : ∀ (g : Nat) (v8 : Option V), (if post = [] then l else f + pre.length) = g → ∀ k H5, (H5 = upd (upd H' t (.tup [.int (pre.length : Nat), .str (lS x)])) k (.tup [.int pl, .str (lS x), .int g])) → (upd H' t (.tup [.int (pre.length : Nat), .str (lS x)])) k = none → 
          ∃ (pl2 : Nat) (post2 : Row) (A2 : List Arr) (acc2 : List V) (v6 v7 v8 : Option V), ([some (.str (rS r)), some (.int p), some (.int l), some (.int f), some (.ref d), some (.int g), some (.int (pre.length : Nat)), some (.str (lS x)), some (.int g)] : L2.St) = [some (.str (rS r)), some (.int p), some (.int l), some (.int f), some (.ref d), some (.int pl2), v6, v7, v8] ∧ Same H (upd H5 d (.lst (acc ++ [.ref k]))) ∧ (upd H5 d (.lst (acc ++ [.ref k]))) d = some (.lst acc2) ∧ acc2.length = (pre ++ [x]).length ∧ DpAll K (upd H5 d (.lst (acc ++ [.ref k]))) acc2 (A2.map encA) ∧
            r = pre ++ [x] ++ post2 ∧ chainA p l f r = A2 ++ chainA pl2 l (f + (pre ++ [x]).length) post2 := by
        intro g v8 hg k H5 e5 hk
        subst e5
        have hdk : d ≠ k := ne_of_none hd3 hk
        refine ⟨g, post, A ++ [(pl, x, g)], acc ++ [.ref k], _, _, _, rfl, same_mut (s3.trans (same_new hk)) hd, upd_same, by simp [hal], ?_, by rw [e]; simp, ?_⟩
        · rw [List.map_append]
          have k2 : KeepT (upd (upd H' t (.tup [.int (pre.length : Nat), .str (lS x)])) k (.tup [.int pl, .str (lS x), .int g])) (upd (upd (upd H' t (.tup [.int (pre.length : Nat), .str (lS x)])) k (.tup [.int pl, .str (lS x), .int g])) d (.lst (acc ++ [.ref k]))) := KeepT.put (.inr (by rw [upd_ne hdk, hd3]; exact True.intro))
          exact dp_snoc (dp_of3 (k2.sqT (SqT.of upd_same))) (dpAll_keep k2 (dpAll_same (same_new hk) hD3) (flat_arrs _))
        · rw [e1, chainA_step, hg, List.append_assoc, List.length_append]
          rfl
      have elen : ((rS r).length : Int) = (r.length : Nat) := by rw [rS_len]
      have post_nil : post = [] ↔ pre.length + 1 = r.length := by
        rw [e, List.length_append, List.length_cons]
        constructor
        · intro h; simp [h]
        · intro h; exact List.length_eq_zero_iff.mp (by omega)
      have ec : decide (V.int ((pre.length : Nat) : Int) = V.int (((rS r).length : Int) - 1)) = decide (post = []) := by
        rw [elen]
        by_cases h : post = []
        · rw [decide_eq_true h]
          have := post_nil.mp h
          exact decide_eq_true (congrArg V.int (by omega))
        · rw [decide_eq_false h]
          refine decide_eq_false fun z => h (post_nil.mpr ?_)
          have := V.int.inj z
          omega
      show if decide (V.int ((pre.length : Nat) : Int) = V.int (((rS r).length : Int) - 1)) = true then _ else _
      rw [ec]
      by_cases h : post = []
      · rw [decide_eq_true h]
        refine iteT ?_
        refine ⟨_, rfl, ?_⟩
        refine ⟨_, rfl, .inl ⟨rfl, _, SqL.of hd3⟩, _, rfl, _, rfl, _, rfl, (by show 3 ≤ sizeLine; decide), fun k hk => ?_⟩
        have hdk : d ≠ k := ne_of_none hd3 hk
        refine ⟨d, acc, _, rfl, rfl, (by rw [upd_ne hdk]; exact hd3), sz1M (by omega), ?_⟩
        exact ⟨_, rfl, step l v8 (if_pos h) k _ rfl hk⟩
      · rw [decide_eq_false h]
        refine iteF ?_
        refine ⟨_, rfl, .inl ⟨rfl, _, SqL.of hd3⟩, _, rfl, _, rfl, _, rfl, (by show 3 ≤ sizeLine; decide), fun k hk => ?_⟩
        have hdk : d ≠ k := ne_of_none hd3 hk
        refine ⟨d, acc, _, rfl, rfl, (by rw [upd_ne hdk]; exact hd3), sz1M (by omega), ?_⟩
        have e4 : ((f : Int) + ((pre.length : Nat) : Int)) = ((f + pre.length : Nat) : Int) := by omega
        refine ⟨_, rfl, ?_⟩
        have z := step (f + pre.length) v8 (if_neg h) k _ rfl hk
        rw [← e4] at z
        exact z
    · rintro σ H' ⟨pl, post, A, acc, v6, v7, v8, rfl, s2, hd2, hal, hD, e0, e1⟩
      have ep : post = [] := List.append_cancel_left (e0.symm.trans (List.append_nil r).symm)
      subst ep
      refine ⟨_, rfl, q d H' hd s2 ⟨acc, hd2, ?_⟩⟩
      rw [e1]
      have : chainA pl l (f + r.length) [] = [] := rfl
      rw [this, List.append_nil]
      exact hD
def spNet : Sp := fun vs H Q _ => ∃ r : Row, vs = [.str (rS r)] ∧ r.length ≤ 500000 ∧ ∀ H', Same H H' → Q (.str (rS (net r))) H'
theorem ok_net_letters (T : Top K mg) : FnOk P w K mg base CX0 2 T.d_net_letters.f T.d_net_letters.d ["row"] spNet := by
  refine T.d_net_letters.F.ok sc_net_letters (fun vs H Q E h => ?_) (fun cdv A outer s H vs Q E hr h => ?_)
  · obtain ⟨r, rfl, _⟩ := h
    rfl
  · obtain ⟨r, rfl, hlen, q⟩ := h
    have hu := hu_of hr
    refine ⟨_,
      (pss_cons (ps_set (i := 1) sc_net_letters.nd rfl (Or.inl rfl) (pe_lst pa_nil))
      (pss_cons (ps_for PassesOwn.never rfl (pi_str (pv 0)) (pg_name (i := 2) sc_net_letters.nd rfl (Or.inl rfl))
      (pss_one (ps_if (PW.pt (pw_and (pt_cmpR op_gt (pe_callB call_len_seq (by rfl) T.z_len (by decide +kernel) (pa_cons (pv 1) pa_nil)) pe_int (nomark _)) (pw_and1 (pt_cmpR op_eq (pe_ix ix_list (pv 1) (pe_un un_neg pe_int) (fun _ _ => rfl)) (pe_call (ok_undoing_of T) (hr.mono (by decide)) (by rfl) T.d_undoing_of.g T.d_undoing_of.F.kp T.d_undoing_of.b .nil pass0 (pa_cons (pv 2) pa_nil)) (nomark _)))))
      (pss_one (ps_expr (pe_bm0 PySem.F.plainAttrs_list PySem.F.slot_list_pop PySem.F.type_list_pop mt_pop (pv 1))))
      (pss_one (ps_expr (pe_bm PySem.F.plainAttrs_list PySem.F.slot_list_append PySem.F.type_list_append mt_append (pv 1) (pa_cons (pv 2) pa_nil)))))))
      (pss_one (ps_ret (pe_join pe_str (pv 1))))))
      , ?_⟩
    refine ⟨(by show 0 ≤ sizeLine; decide), fun d hd => ?_⟩
    have s1 : Same H (upd H d (.lst [])) := same_new hd
    refine ⟨_, rfl, _, rfl, for_row (r := r) (fun pre σ H' => ∃ v2, σ = [some (.str (rS r)), some (.ref d), v2] ∧ H' = upd H d (.lst ((run [] pre).reverse.map fun x => .str (lS x)))) ⟨none, rfl, rfl⟩ ?_ ?_⟩
    · rintro pre x post σ H' e ⟨v2, rfl, rfl⟩
      have hpl : pre.length < r.length := by rw [e, List.length_append, List.length_cons]; omega
      have hkl : (run [] pre).length ≤ pre.length := by
        have := net_length_le pre
        unfold net at this
        rwa [List.length_reverse] at this
      have e1 : run [] (pre ++ [x]) = push (run [] pre) x := by rw [run_append]; rfl
      rw [e1]
      generalize run [] pre = k at hkl
      have gd : upd H d (.lst (k.reverse.map fun x => .str (lS x))) d = some (.lst (k.reverse.map fun x => .str (lS x))) := upd_same
      refine ⟨_, rfl, d, _, rfl, .inl (SqL.of gd), _, _, rfl, rfl, _, rfl, ?_⟩
      have eln : (((k.reverse.map fun x => V.str (lS x)).length : Nat) : Int) = (k.length : Nat) := by simp
      show if decide ((0 : Int) < (((k.reverse.map fun x => V.str (lS x)).length : Nat) : Int)) = true then _ else _
      rw [eln]
      have put : ∀ (k2 : Row), k2 = x :: k → ∀ ys : List V, ys = (k.reverse.map fun x => V.str (lS x)) ++ [.str (lS x)] → upd (upd H d (.lst (k.reverse.map fun x => .str (lS x)))) d (.lst ys) = upd H d (.lst (k2.reverse.map fun x => .str (lS x))) := by
        intro k2 h1 ys h2
        rw [h1, h2, upd_upd]
        simp
      cases k with
      | nil =>
        refine iteF ?_
        refine iteF ?_
        refine ⟨_, rfl, .inl ⟨rfl, _, SqL.of gd⟩, _, rfl, d, _, _, rfl, rfl, gd, by simp; decide, ?_⟩
        exact ⟨_, rfl, put _ rfl _ rfl⟩
      | cons y k =>
        rw [decide_eq_true (show (0 : Int) < (((y :: k).length : Nat) : Int) by simp only [List.length_cons]; omega)]
        refine iteT ?_
        have gl : atI (((y :: k).reverse.map fun x => V.str (lS x))) (-1) = some (.str (lS y)) := by
          rw [List.reverse_cons, List.map_append]
          exact atI_last _ _
        refine ⟨_, rfl, _, rfl, d, _, _, _, rfl, rfl, SqL.of gd, gl, _, rfl, [x], rfl, by simp, ?_⟩
        refine ⟨rfl, _, rfl, ?_⟩
        have ed : decide (V.str (lS y) = V.str (rS (List.map Lt.inv [x]))) = decide (y = x.inv) := by
          by_cases h : y = x.inv
          · subst h
            simp only [List.map_cons, List.map_nil, rS_one]
          · rw [decide_eq_false h]
            refine decide_eq_false fun z => h (lS_inj (V.str.inj z))
        rw [ed]
        by_cases h : y = x.inv
        · rw [decide_eq_true h]
          refine iteT ?_
          have hpush : push (y :: k) x = k := if_pos h
          have gl2 : ((y :: k).reverse.map fun x => V.str (lS x)) = (k.reverse.map fun x => V.str (lS x)) ++ [.str (lS y)] := by simp
          refine ⟨_, rfl, .inl ⟨rfl, _, SqL.of gd⟩, d, _, .str (lS y), rfl, rfl, gd, by rw [gl2]; simp, ?_⟩
          refine ⟨_, rfl, ?_⟩
          rw [hpush, upd_upd, gl2, List.dropLast_concat]
        · rw [decide_eq_false h]
          refine iteF ?_
          have hpush : push (y :: k) x = x :: y :: k := if_neg h
          refine ⟨_, rfl, .inl ⟨rfl, _, SqL.of gd⟩, _, rfl, d, _, _, rfl, rfl, gd, sz1M (by simp only [List.length_map, List.length_reverse]; omega), ?_⟩
          exact ⟨_, rfl, put _ hpush _ rfl⟩
    · rintro σ H' ⟨v2, rfl, rfl⟩
      refine ⟨⟨_, rfl⟩, _, rfl, Str.empty, d, (net r).map lS, rfl, rfl, .inl (SqL.of (by rw [upd_same, List.map_map]; rfl)), ?_, ?_⟩
      · rw [sum_row, List.length_map]
        have := net_length_le r
        show _ + _ * 0 ≤ _
        omega
      · show Q (.str (Txt.join Str.empty ((net r).map lS))) _
        rw [join_row]
        exact q _ (same_new hd)
def spTurned : Sp := fun vs H Q _ => ∃ r : Row, vs = [.str (rS r)] ∧ r.length ≤ 100000 ∧ Q (.str (rS (invR r))) H
end
end Rb
/-! Webs: how one is made; its own ==. -/
namespace Rb
set_option linter.all false
set_option maxRecDepth 100000
set_option maxHeartbeats 4000000
open PySem PySem.Spec PyProof.Rows L2
/-- a dict from letters to places tells the steps of a place -/
def StK (kvs : List (L2.Key × V)) (δ : Lt → Option Nat) : Prop := ∀ x, valV kvs (.inr (lS x)) = (δ x).map fun q : Nat => V.int q
theorem StK.put {kvs : List (L2.Key × V)} {δ : Nat → Lt → Option Nat} {p : Nat} (h : StK kvs (δ p)) (x : Lt) (q : Nat) : StK (putK kvs (.inr (lS x)) (.int q)) (put2 δ p x q p) := by
  intro x'
  rw [valV_put]
  unfold put2
  by_cases e : x' = x
  · subst e
    rw [if_pos rfl, if_pos ⟨rfl, rfl⟩]
    rfl
  · have : ¬ ((Sum.inr (lS x') : L2.Key) = Sum.inr (lS x)) := fun z => e (lS_inj (Sum.inr.inj z))
    rw [if_neg this, if_neg (fun z => e z.2), h]
theorem put2_ne {δ : Nat → Lt → Option Nat} {p p' : Nat} {x : Lt} {q : Nat} (h : p' ≠ p) : put2 δ p x q p' = δ p' := by
  funext x'
  unfold put2
  rw [if_neg (fun z => h z.1)]
/-- the dicts of the places: one for each -/
structure StepsAt (H : Hp) (ads : List Addr) (δ : Nat → Lt → Option Nat) (m : Nat) : Prop where
  at_ : ∀ i a, ads[i]? = some a → ∃ kvs, H a = some (.dK kvs) ∧ StK kvs (δ i) ∧ kvs.length ≤ m
theorem StepsAt.put {H : Hp} {ads : List Addr} {δ : Nat → Lt → Option Nat} {m i : Nat} {a : Addr} {kvs : List (L2.Key × V)} (h : StepsAt H ads δ m) (nd : ads.Nodup) (hi : ads[i]? = some a) (ha : H a = some (.dK kvs)) (hk : StK kvs (δ i)) (hl : kvs.length ≤ m) (x : Lt) (q : Nat) :
    StepsAt (upd H a (.dK (putK kvs (.inr (lS x)) (.int q)))) ads (put2 δ i x q) (m + 1) := by
  refine ⟨fun j b hb => ?_⟩
  by_cases e : j = i
  · subst e
    rw [hi] at hb
    cases hb
    exact ⟨_, upd_same, hk.put x q, Nat.le_trans (length_putK _ _ _) (by omega)⟩
  · have hne : b ≠ a := by
      rintro rfl
      obtain ⟨h1, e1⟩ := List.getElem?_eq_some_iff.mp hi
      obtain ⟨h2, e2⟩ := List.getElem?_eq_some_iff.mp hb
      rcases Nat.lt_or_gt_of_ne e with h | h
      · exact (List.pairwise_iff_getElem.mp nd j i h2 h1 h) (e2.trans e1.symm)
      · exact (List.pairwise_iff_getElem.mp nd i j h1 h2 h) (e1.trans e2.symm)
    obtain ⟨kv2, g1, g2, g3⟩ := h.at_ j b hb
    exact ⟨kv2, by rw [upd_ne hne]; exact g1, by rw [put2_ne e]; exact g2, by omega⟩
theorem StepsAt.same {H H' : Hp} {ads : List Addr} {δ : Nat → Lt → Option Nat} {m : Nat} (h : StepsAt H ads δ m) (e : Same H H') : StepsAt H' ads δ m :=
  ⟨fun i a ha => let ⟨kvs, g1, g2, g3⟩ := h.at_ i a ha; ⟨kvs, e _ _ g1, g2, g3⟩⟩
/-- the web w over the deeds ds stands at p -/
structure WebOk (w : WebD) : Prop where
  size : w.size ≤ 100000
  pos : 0 < w.size
  few : w.ways.length ≤ 100000
  lt : ∀ v ∈ w.ways, v.1 < w.size ∧ v.2.2 < w.size
def WebAt (K : PySem.W.Frag) (C : Addr) (H : Hp) (p : Addr) (ds : List (Fin 26)) (w : WebD) : Prop := WebOk w ∧ ∃ (dx t l : Addr) (vs : List V) (ads : List Addr) (m : Nat),
  H p = some (.ins C dx [("deeds", .str (dS ds)), ("size", .int (w.size : Nat)), ("ways", .ref t), ("kept_deeds", .str (dS ds)), ("kept_size", .int (w.size : Nat)), ("kept_ways", .ref t), ("kept_steps", .ref l)]) ∧
  H t = some (.tup vs) ∧ DpAll K H vs (w.ways.map encW) ∧ H l = some (.lst (ads.map V.ref)) ∧ ads.length = w.size ∧ StepsAt H ads (stepsD w.ways) m
theorem WebAt.same {K : PySem.W.Frag} {C : Addr} {H H' : Hp} {p : Addr} {ds : List (Fin 26)} {w : WebD} (h : WebAt K C H p ds w) (e : Same H H') : WebAt K C H' p ds w := by
  obtain ⟨o, dx, t, l, vs, ads, m, h1, h2, h3, h4, h5, h6⟩ := h
  exact ⟨o, dx, t, l, vs, ads, m, e _ _ h1, e _ _ h2, dpAll_same e h3, e _ _ h4, h5, h6.same e⟩
/-! ### ways as data -/
theorem lay_ways : ∀ ws : List Way, PyData.canLayAll0 (ws.map encW) = true
  | [] => rfl
  | w :: ws => by
    rw [List.map_cons]
    unfold PyData.canLayAll0
    rw [lay_ways ws, Bool.and_true]
    have h : PyData.strOk (lS ⟨w.2.1, false⟩) = true := by
      unfold PyData.strOk lS Lt.c
      have := w.2.1.isLt
      simp
      omega
    simp [encW, PyData.canLay0, PyData.canLayAll0, h]
theorem depth_ways : ∀ ws : List Way, PyData.depthAll (ws.map encW) ≤ 1
  | [] => Nat.zero_le _
  | w :: ws => by
    rw [List.map_cons]
    unfold PyData.depthAll
    refine Nat.max_le.mpr ⟨?_, depth_ways ws⟩
    simp [encW, PyData.depth, PyData.depthAll]
theorem shaped_ways (ws : List Way) : SeqAt.shaped (.tuple (ws.map encW)) = true := by
  unfold SeqAt.shaped
  refine Bool.and_eq_true_iff.mpr ⟨?_, decide_eq_true ?_⟩
  · unfold PyData.canLay0
    exact lay_ways ws
  · unfold PyData.depth
    have := depth_ways ws
    omega
section
variable {P : Program} {w : World} {K : PySem.W.Frag} {mg : Str → Option Value} {base : Heap}
def spWebInit (K : PySem.W.Frag) (C : Addr) : Sp := fun vs H Q _ => ∃ (p dx t : Addr) (ds : List (Fin 26)) (ws : List V) (w : WebD), vs = [.ref p, .str (dS ds), .int (w.size : Nat), .ref t] ∧ WebOk w ∧ H p = some (.ins C dx []) ∧ H t = some (.tup ws) ∧ DpAll K H ws (w.ways.map encW) ∧
  ∀ H', WebAt K C H' p ds w → Upto [p] H H' → Q .non H'
theorem ok_Web___init__ (T : Top K mg) : FnOk P w K mg base CX0 2 T.m_Web___init__.f T.m_Web___init__.d ["self", "deeds", "size", "ways"] (spWebInit K T.C_Web) := by
  refine T.m_Web___init__.F.ok sc_Web___init__ (fun vs H Q E h => ?_) (fun cdv A outer s H vs Q E hr h => ?_)
  · obtain ⟨p, dx, t, ds, ws, w, rfl, _⟩ := h
    rfl
  · obtain ⟨p, dx, t, ds, ws, w, rfl, hok, hp, ht, hD, q⟩ := h
    have hu := hu_of hr
    refine ⟨_,
      (pss_cons (ps_fld (pv 0) (pv 1) rfl)
      (pss_cons (ps_fld (pv 0) (pv 2) rfl)
      (pss_cons (ps_fld (pv 0) (pv 3) rfl)
      (pss_cons (ps_fld (pv 0) (pv 1) rfl)
      (pss_cons (ps_fld (pv 0) (pv 2) rfl)
      (pss_cons (ps_fld (pv 0) (pv 3) rfl)
      (pss_cons (ps_setLc (i := 4) (own := [("place", 5)]) (g := (gName 5)) (tt := tYes) rfl sc_Web___init__.nd rfl rfl (sw_true rfl rfl rfl (by decide +kernel)) (pi_range1 (by rfl) T.z_range (pa_cons (pv 2) pa_nil)) (blkOk_by (N := N_Web___init__) (sc := defScope s_Web___init__) (by decide +kernel)) (fun _ _ _ _ _ => (pg_name (i := 5) sc_Web___init__.nd rfl (Or.inl rfl))) (fun _ _ _ _ _ => pts_nil) (fun _ _ _ _ _ => pe_dnewK))
      (pss_cons (ps_for PassesOwn.never rfl (pi_tup (pv 3)) (pg_tup (by rfl) (pgs_cons (pg_name (i := 5) sc_Web___init__.nd rfl (Or.inl rfl)) (pgs_cons (pg_name (i := 6) sc_Web___init__.nd rfl (Or.inl rfl)) (pgs_cons (pg_name (i := 7) sc_Web___init__.nd rfl (Or.inl rfl)) pgs_nil))))
      (pss_cons (ps_dput hu (pe_ix ix_list (pv 4) (pv 5) (fun _ _ => rfl)) (pv 6) (pv 7) rfl)
      (pss_one (ps_dput hu (pe_ix ix_list (pv 4) (pv 7) (fun _ _ => rfl)) (pe_call (ok_undoing_of T) (hr.mono (by decide)) (by rfl) T.d_undoing_of.g T.d_undoing_of.F.kp T.d_undoing_of.b .nil pass0 (pa_cons (pv 6) pa_nil)) (pv 5) rfl))))
      (pss_one (ps_fld (pv 0) (pv 4) rfl))))))))))
      , ?_⟩
    refine ⟨_, rfl, _, rfl, p, T.C_Web, dx, _, rfl, hp, T.k_Web.cl, T.n_Web_deeds, by show 0 < 1000; decide, ?_⟩
    refine ⟨_, rfl, _, rfl, p, T.C_Web, dx, _, rfl, upd_same, T.k_Web.cl, T.n_Web_size, by show 1 < 1000; decide, ?_⟩
    refine ⟨_, rfl, _, rfl, p, T.C_Web, dx, _, rfl, upd_same, T.k_Web.cl, T.n_Web_ways, by show 2 < 1000; decide, ?_⟩
    refine ⟨_, rfl, _, rfl, p, T.C_Web, dx, _, rfl, upd_same, T.k_Web.cl, T.n_Web_kept_deeds, by show 3 < 1000; decide, ?_⟩
    refine ⟨_, rfl, _, rfl, p, T.C_Web, dx, _, rfl, upd_same, T.k_Web.cl, T.n_Web_kept_size, by show 4 < 1000; decide, ?_⟩
    refine ⟨_, rfl, _, rfl, p, T.C_Web, dx, _, rfl, upd_same, T.k_Web.cl, T.n_Web_kept_ways, by show 5 < 1000; decide, ?_⟩
    rw [upd_upd, upd_upd, upd_upd, upd_upd, upd_upd]
    generalize ho : HO.ins T.C_Web dx _ = o6
    have s6 : Upto [p] H (upd H p o6) := fun b o hb hn => by rw [upd_ne (by simpa using hn)]; exact hb
    have hsz := hok.size
    refine ⟨_, rfl, w.size, rfl, by omega, by omega, fun D hD0 => ?_⟩
    have hD0' : H D = none := by
      have : D ≠ p := by rintro rfl; rw [upd_same] at hD0; cases hD0
      rwa [upd_ne this] at hD0
    refine lc_range (lo := 0) (n := w.size) (fun i H' => ∃ ads : List Addr, ads.length = i ∧ H' D = some (.lst (ads.map V.ref)) ∧ Same (upd H p o6) H' ∧ (∀ a ∈ ads, H' a = some (.dK [])) ∧ ads.Nodup ∧ (∀ a ∈ ads, (upd H p o6) a = none))
      ⟨[], rfl, upd_same, same_new hD0, by simp, by simp, by simp⟩ ?_ ?_
    · rintro i H' hi ⟨ads, e1, e2, e3, e4, e5, e6⟩
      refine ⟨rfl, ?_⟩
      refine yes_if ?_
      intro a ha
      have hDa : D ≠ a := ne_of_none e2 ha
      have hna : a ∉ ads := fun z => by rw [e4 a z] at ha; cases ha
      refine ⟨ads.map V.ref, by rw [upd_ne hDa]; exact e2, sz1M (by have := hok.size; simp; omega), ads ++ [a], by simp [e1], by rw [upd_same]; simp, same_mut (e3.trans (same_new ha)) hD0, ?_, ?_, ?_⟩
      · intro b hb
        rcases List.mem_append.mp hb with hb2 | hb2
        · have h1 : b ≠ D := fun z => by have := e4 b hb2; rw [z, e2] at this; cases this
          have h2 : b ≠ a := by rintro rfl; exact hna hb2
          rw [upd_ne h1, upd_ne h2]
          exact e4 b hb2
        · rw [List.mem_singleton.mp hb2, upd_ne hDa.symm, upd_same]
      · rw [List.nodup_append]
        refine ⟨e5, by simp, ?_⟩
        rintro x hx y hy rfl
        rw [List.mem_singleton.mp hy] at hx
        exact hna hx
      · intro b hb
        rcases List.mem_append.mp hb with hb | hb
        · exact e6 b hb
        · rw [List.mem_singleton.mp hb]
          exact e3.free ha
    · rintro H1 ⟨ads, e1, e2, e3, e4, e5, e6⟩
      have hD1 : (upd H p o6) D = none := hD0
      have pt : p ≠ t := ne_of hp ht (by intro z; cases z)
      have ht1 : H1 t = some (.tup ws) := e3 _ _ (by rw [upd_ne pt.symm]; exact ht)
      have hDw : DpAll K H1 ws (w.ways.map encW) := dpAll_keep ((KeepT.put (o := o6) (.inr (by rw [hp]; exact True.intro))).trans (KeepT.of e3)) hD (flat_ways _)
      have hwl : ws.length = w.ways.length := by rw [dp_len hDw, List.length_map]
      refine ⟨_, rfl, t, rfl, ⟨_, SqT.of ht1⟩, for_dt (K := K) (xs := ws) (ds := w.ways) hwl (fun pre σ H' => ∃ v5 v6 v7, σ = [some (.ref p), some (.str (dS ds)), some (.int (w.size : Nat)), some (.ref t), some (.ref D), v5, v6, v7] ∧ Same (upd H p o6) H' ∧ H' D = some (.lst (ads.map V.ref)) ∧ StepsAt H' ads (stepsD pre) (2 * pre.length) ∧ H' t = some (.tup ws) ∧ DpAll K H' ws (w.ways.map encW))
        ⟨_, _, _, rfl, e3, e2, ⟨fun i a ha => ⟨[], e4 a (List.mem_of_getElem? ha), fun x => rfl, by simp⟩⟩, ht1, hDw⟩ ?_ ?_ ?_⟩
      · rintro pre σ H' ⟨_, _, _, _, _, _, _, h, _⟩
        exact SqT.of h
      · rintro pre v post x σ H' e hx ⟨v5, v6, v7, rfl, f1, f2, f3, f4, f5⟩
        obtain ⟨tw, rfl, htw⟩ := way_at f5 e hx
        have hvW : v ∈ w.ways := by rw [e]; simp
        obtain ⟨hv1, hv2⟩ := hok.lt v hvW
        have hpre : pre.length < w.ways.length := by rw [e, List.length_append, List.length_cons]; omega
        have hfew := hok.few
        obtain ⟨p0, d0, q0⟩ := v
        simp only at htw hv1 hv2
        have ga : ∀ {i : Nat}, i < w.size → ∃ a, ads[i]? = some a := fun {i} hi => ⟨ads[i], List.getElem?_eq_getElem (by omega)⟩
        obtain ⟨a1, ha1⟩ := ga hv1
        obtain ⟨a2, ha2⟩ := ga hv2
        have at_ : ∀ {i : Nat} {a : Addr}, ads[i]? = some a → atI (ads.map V.ref) (i : Int) = some (.ref a) := fun h => atI_nat (by rw [List.getElem?_map, h]; rfl)
        obtain ⟨kv1, b1, b2, b3⟩ := f3.at_ p0 a1 ha1
        refine ⟨tw, _, rfl, htw, rfl, _, _, rfl, _, _, rfl, _, _, rfl, rfl, ?_⟩
        refine ⟨_, rfl, _, rfl, _, rfl, D, _, _, _, rfl, rfl, SqL.of f2, at_ ha1, _, rfl, a1, _, rfl, DPut.k (k := .inr (lS ⟨d0, false⟩)) b1 (sz1M (by omega)), ?_⟩
        have z1 := f3.put e5 ha1 b1 b2 b3 ⟨d0, false⟩ q0
        have na1 : (upd H p o6) a1 = none := e6 _ (List.mem_of_getElem? ha1)
        have na2 : (upd H p o6) a2 = none := e6 _ (List.mem_of_getElem? ha2)
        have Da : ∀ {i : Nat} {a : Addr}, ads[i]? = some a → D ≠ a := fun {i a} h => by
          rintro rfl
          obtain ⟨_, g, _⟩ := f3.at_ i _ h
          rw [f2] at g
          cases g
        have ta : ∀ {i : Nat} {a : Addr}, ads[i]? = some a → t ≠ a := fun {i a} h => by
          rintro rfl
          obtain ⟨_, g, _⟩ := f3.at_ i _ h
          rw [f4] at g
          cases g
        have k1 : KeepT H' (upd H' a1 (.dK (putK kv1 (.inr (lS ⟨d0, false⟩)) (.int q0)))) := KeepT.put (.inr (by rw [b1]; exact True.intro))
        obtain ⟨kv2, c1, c2, c3⟩ := z1.at_ q0 a2 ha2
        refine ⟨_, rfl, _, rfl, _, rfl, D, _, _, _, rfl, rfl, SqL.of (by rw [upd_ne (Da ha1)]; exact f2), at_ ha2, _, rfl, [⟨d0, false⟩], rfl, by simp, a2, _, rfl, DPut.k (k := .inr (lS ⟨d0, true⟩)) c1 (sz1M (by omega)), ?_⟩
        have z2 := z1.put e5 ha2 c1 c2 c3 ⟨d0, true⟩ p0
        have k2 : KeepT (upd H' a1 (.dK (putK kv1 (.inr (lS ⟨d0, false⟩)) (.int q0)))) (upd (upd H' a1 (.dK (putK kv1 (.inr (lS ⟨d0, false⟩)) (.int q0)))) a2 (.dK (putK kv2 (.inr (lS ⟨d0, true⟩)) (.int p0)))) := KeepT.put (.inr (by rw [c1]; exact True.intro))
        refine ⟨_, _, _, rfl, same_mut (same_mut f1 na1) na2, ?_, ?_, ?_, dpAll_keep (k1.trans k2) f5 (flat_ways _)⟩
        · rw [upd_ne (Da ha2), upd_ne (Da ha1)]; exact f2
        · rw [stepsD_snoc]
          have el : 2 * (pre ++ [(p0, d0, q0)]).length = 2 * pre.length + 1 + 1 := by simp; omega
          rw [el]
          exact z2
        · rw [upd_ne (ta ha2), upd_ne (ta ha1)]; exact f4
      · rintro σ H' ⟨v5, v6, v7, rfl, f1, f2, f3, f4, f5⟩
        have hp' : H' p = some o6 := f1 _ _ upd_same
        subst ho
        have pD : p ≠ D := ne_of_none hp hD0'
        have pads : ∀ {i : Nat} {a : Addr}, ads[i]? = some a → a ≠ p := fun {i a} h => by
          rintro rfl
          obtain ⟨_, g, _⟩ := f3.at_ i _ h
          rw [hp'] at g
          cases g
        refine ⟨_, rfl, _, rfl, p, T.C_Web, dx, _, rfl, hp', T.k_Web.cl, T.n_Web_kept_steps, by show 6 < 1000; decide, ?_⟩
        have kk : KeepT H' (upd H' p (.ins T.C_Web dx [("deeds", .str (dS ds)), ("size", .int (w.size : Nat)), ("ways", .ref t), ("kept_deeds", .str (dS ds)), ("kept_size", .int (w.size : Nat)), ("kept_ways", .ref t), ("kept_steps", .ref D)])) := KeepT.put (.inr (by rw [hp']; exact True.intro))
        refine q _ ⟨hok, dx, t, D, ws, ads, 2 * w.ways.length, by rw [upd_same]; rfl, ?_, dpAll_keep kk f5 (flat_ways _), ?_, e1, ⟨fun i a ha => ?_⟩⟩ ?_
        · rw [upd_ne pt.symm]; exact f4
        · rw [upd_ne pD.symm]; exact f2
        · obtain ⟨kvs, g1, g2, g3⟩ := f3.at_ i a ha
          exact ⟨kvs, by rw [upd_ne (pads ha)]; exact g1, g2, g3⟩
        · intro b o hb hn
          rw [upd_ne (by simpa using hn)]
          exact f1 _ _ (s6 _ _ hb hn)
/-- two webs alike -/
def eqWebs (K : PySem.W.Frag) (C : Addr) : Addr → Addr → Hp → Prop := fun a b H => ∃ ds w, WebAt K C H a ds w ∧ WebAt K C H b ds w
theorem ok_Web___eq__ (T : Top K mg) : FnOk P w K mg base CX0 1 T.m_Web___eq__.f T.m_Web___eq__.d ["self", "other"] (spEq (eqWebs K T.C_Web)) := by
  refine T.m_Web___eq__.F.ok sc_Web___eq__ (fun vs H Q E h => ?_) (fun cdv A outer s H vs Q E hr h => ?_)
  · obtain ⟨a, b, rfl, _⟩ := h
    rfl
  · obtain ⟨a, b, rfl, ⟨ds, w, ⟨ok, dx, t, l, vs, ads, m, h1, h2, h3, h4, h5, h6⟩, ⟨ok', dx', t', l', vs', ads', m', k1, k2, k3, k4, k5, k6⟩⟩, q⟩ := h
    have hu := hu_of hr
    refine ⟨_,
      (pss_cons (ps_if (pt_not (pt_val (pe_callB (C8.call_isC T.i_Web) (by rfl) T.z_isinstance (by decide +kernel) (pa_cons (pv 1) (pa_cons (pe_glob (v := .ref T.C_Web) rfl T.k_Web.g rfl) pa_nil)))))
      (pss_one (ps_ret pe_bl))
      pss_nil)
      (pss_cons (ps_if (PW.pt (pw_or (pt_cmpR op_ne (pe_fld (pv 0) rfl) (pe_fld (pv 1) rfl) (nomark _)) (pw_or1 (pt_cmpR op_ne (pe_fld (pv 0) rfl) (pe_fld (pv 1) rfl) (nomark _)))))
      (pss_one (ps_ret pe_bl))
      pss_nil)
      (pss_one (ps_ret (pe_cmpR (op_eqD hr.units) (pe_fld (pv 0) rfl) (pe_fld (pv 1) rfl) (nomark _))))))
      , ?_⟩
    have dec_same : ∀ x : V, (!decide (x = x)) = false := fun x => by simp
    refine ⟨_, rfl, b, dx', _, rfl, k1, _, rfl, ?_⟩
    refine iteF ?_
    refine ⟨_, rfl, a, T.C_Web, dx, _, _, rfl, h1, T.k_Web.cl, T.n_Web_kept_deeds, rfl, _, rfl, b, T.C_Web, dx', _, _, rfl, k1, T.k_Web.cl, T.n_Web_kept_deeds, rfl, rfl, _, rfl, ?_⟩
    rw [dec_same]
    refine iteF ?_
    refine ⟨_, rfl, a, T.C_Web, dx, _, _, rfl, h1, T.k_Web.cl, T.n_Web_kept_size, rfl, _, rfl, b, T.C_Web, dx', _, _, rfl, k1, T.k_Web.cl, T.n_Web_kept_size, rfl, rfl, _, rfl, ?_⟩
    rw [dec_same]
    refine iteF ?_
    refine ⟨_, rfl, a, T.C_Web, dx, _, _, rfl, h1, T.k_Web.cl, T.n_Web_kept_ways, rfl, _, rfl, b, T.C_Web, dx', _, _, rfl, k1, T.k_Web.cl, T.n_Web_kept_ways, rfl, ?_⟩
    refine ⟨.tuple (w.ways.map encW), .tuple (w.ways.map encW), .tup (SqT.of h2) h3, .tup (SqT.of k2) k3, shaped_ways _, shaped_ways _, ?_⟩
    rw [SeqAt.eqv_refl _ (SeqAt.canLay_of_shaped (shaped_ways w.ways))]
    exact q H Ext.rfl'
end
end Rb
/-! Webs made of rows. -/
namespace Rb
set_option linter.all false
set_option maxRecDepth 100000
set_option maxHeartbeats 4000000
open PySem PySem.Spec PyProof.Rows L2
/-! ### plain facts -/
theorem bfs_all {δ : Nat → Lt → Option Nat} {ls : List Lt} {i : Nat} {Q R : List Nat} {Pr : Nat → Prop} (hs : ∀ p x q, δ p x = some q → Pr q) (h : Bfs δ ls i Q R) : (∀ p ∈ Q, Pr p) → ∀ p ∈ R, Pr p := by
  induction h with
  | done _ => exact fun h => h
  | more hp _ ih =>
    intro hQ
    refine ih fun p hp => ?_
    rcases rowOf_mem hp with h | ⟨x, _, h⟩
    · exact hQ p h
    · exact hs _ _ _ h
theorem nodup_lt {R : List Nat} {n : Nat} (hn : R.Nodup) (h : ∀ p ∈ R, p < n) : R.length ≤ n := by
  have := hn.length_le_of_subset (l₂ := List.range n) (fun p hp => List.mem_range.mpr (h p hp))
  rwa [List.length_range] at this
theorem numb_len (Q : List Nat) (W : List Way) : (numb Q W).length ≤ W.length := by
  unfold numb
  rw [List.length_map]
  exact List.length_filter_le _ _
theorem webOf_ok {ls : List Lt} {W : List Way} {b n : Nat} {R : List Nat} (hR : Right ls W b) (hB : Bfs (stepsD W) ls 0 [b] R) (hb : b < n) (hn : n ≤ 100000) (hlt : ∀ w ∈ W, w.1 < n ∧ w.2.2 < n) (hl : W.length ≤ 100000) : WebOk (webOf R W) := by
  have hF := fits_steps hR.det
  obtain ⟨nd, _, hz, hc⟩ := closed_of hR hF hB
  have hall : ∀ p ∈ R, p < n := by
    refine bfs_all (Pr := fun p => p < n) (fun p x q h => ?_) hB (by simpa using hb)
    have hs := stepsD_sound W h
    unfold St at hs
    split at hs
    · exact (hlt _ hs).1
    · exact (hlt _ hs).2
  refine ⟨Nat.le_trans (nodup_lt nd hall) hn, (List.getElem?_eq_some_iff.mp hz).1, ?_, ?_⟩
  · show (wsort (numb R W)).length ≤ _
    rw [wsort_length]
    exact Nat.le_trans (numb_len _ _) hl
  · rintro ⟨i, d, j⟩ hv
    have hm : (i, d, j) ∈ numb R W := mem_wsort.mp hv
    obtain ⟨p, q, h1, h2, _⟩ := (mem_numb nd hc).mp hm
    exact ⟨(List.getElem?_eq_some_iff.mp h1).1, (List.getElem?_eq_some_iff.mp h2).1⟩
theorem chainA_len : ∀ (r : Row) (p l f : Nat), (chainA p l f r).length = r.length
  | [], _, _, _ => rfl
  | x :: r, p, l, f => by rw [chainA_step, List.length_cons, List.length_cons, chainA_len r]
theorem laid_snoc : ∀ (rs : List Row) (f : Nat) (r : Row), laid f (rs ++ [r]) = laid f rs ++ chainA 0 0 (laidMany f rs) (net r)
  | [], f, r => by
    show chainA 0 0 f (net r) ++ [] = [] ++ chainA 0 0 f (net r)
    simp
  | r' :: rs, f, r => by
    show chainA 0 0 f (net r') ++ laid _ (rs ++ [r]) = (chainA 0 0 f (net r') ++ laid _ rs) ++ _
    rw [laid_snoc rs, List.append_assoc]
    rfl
theorem laidMany_snoc : ∀ (rs : List Row) (f : Nat) (r : Row), laidMany f (rs ++ [r]) = laidMany f rs + (net r).length
  | [], f, r => rfl
  | r' :: rs, f, r => laidMany_snoc rs (f + (net r').length) r
theorem laid_len : ∀ (rs : List Row) (f m : Nat), (∀ r ∈ rs, r.length ≤ m) → (laid f rs).length ≤ m * rs.length ∧ laidMany f rs ≤ f + m * rs.length
  | [], f, m, _ => ⟨Nat.zero_le _, Nat.le_refl _⟩
  | r :: rs, f, m, h => by
    obtain ⟨h1, h2⟩ := laid_len rs (f + (net r).length) m fun r hr => h r (by simp [hr])
    have h3 := net_length_le r
    have h4 := h r (by simp)
    have e : m * (r :: rs).length = m + m * rs.length := by rw [List.length_cons, Nat.mul_succ]; omega
    rw [e]
    constructor
    · show (chainA 0 0 f (net r) ++ laid _ rs).length ≤ _
      rw [List.length_append, chainA_len]
      omega
    · show laidMany (f + (net r).length) rs ≤ _
      omega
theorem encR_at {rs pre post : List Row} {r : Row} {x : V} (e : rs = pre ++ r :: post) (h : (encR rs)[pre.length]? = some x) : x = .str (rS r) := by
  unfold encR at h
  rw [e, List.map_append, List.getElem?_append_right (by simp)] at h
  simpa using h.symm
section
variable {P : Program} {w : World} {K : PySem.W.Frag} {mg : Str → Option Value} {base : Heap}
def spFoldedW (K : PySem.W.Frag) (C : Addr) : Sp := fun vs H Q _ => ∃ (ds : List (Fin 26)) (n a b : Nat) (A : List Arr), vs = [.str (dS ds), .int n, .ref a, .int b] ∧ ArrsAt K H a A ∧ A.length ≤ 100000 ∧ n ≤ 100000 ∧ b < n ∧ (∀ w ∈ A, w.1 < n ∧ w.2.2 < n) ∧ ds.length ≤ 26 ∧
  (∀ S, Joined id (fwd A) S → Right (lets ds) (headWays S (fwd A)) (S b)) ∧
  ∀ p S R H', H p = none → Same H H' → Joined id (fwd A) S → Bfs (stepsD (headWays S (fwd A))) (lets ds) 0 [S b] R → WebAt K C H' p ds (webOf R (headWays S (fwd A))) → Q (.ref p) H'
theorem ok_folded (T : Top K mg) : FnOk P w K mg base CX0 6 T.d_folded.f T.d_folded.d ["deeds", "many", "arrows", "base"] (spFoldedW K T.C_Web) := by
  refine T.d_folded.F.ok sc_folded (fun vs H Q E h => ?_) (fun cdv A outer s H vs Q E hr h => ?_)
  · obtain ⟨ds, n, a, b, A, rfl, _⟩ := h
    rfl
  · obtain ⟨ds, n, a, b, A, rfl, hA, hlen, hn, hb, hlt, hds, hR, q⟩ := h
    have hu := hu_of hr
    refine ⟨_,
      (pss_cons (ps_asg (pe_call (ok_folded_ways T) (hr.mono (by decide)) (by rfl) T.d_folded_ways.g T.d_folded_ways.F.kp T.d_folded_ways.b .nil pass0 (pa_cons (pv 0) (pa_cons (pv 1) (pa_cons (pv 2) (pa_cons (pv 3) pa_nil))))) (pg_tup (by rfl) (pgs_cons (pg_name (i := 4) sc_folded.nd rfl (Or.inl rfl)) (pgs_cons (pg_name (i := 5) sc_folded.nd rfl (Or.inl rfl)) pgs_nil))))
      (pss_one (ps_ret (pe_make T.k_Web.made (ok_Web___init__ T) (hr.mono (by decide)) (by rfl) T.k_Web.g T.m_Web___init__.b .nil pass0 (pa_cons (pv 0) (pa_cons (pv 4) (pa_cons (pv 5) pa_nil)))))))
      , ?_⟩
    refine ⟨_, rfl, _, rfl, _, rfl, _, rfl, ds, n, a, b, A, rfl, hA, hlen, hn, hb, hlt, hds, hR, fun t S R H1 ht s1 hJ hRo hN hB => ?_⟩
    obtain ⟨tw, ws, g1, g2, g3⟩ := hN
    refine ⟨t, _, rfl, SqT.of g1, rfl, _, _, rfl, _, _, rfl, rfl, ?_⟩
    refine ⟨_, rfl, _, rfl, _, rfl, fun p dx hp hdx hne => ?_⟩
    have hbnd : ∀ w ∈ fwd A, w.1 < n ∧ w.2.2 < n := by
      intro w hw
      unfold fwd at hw
      obtain ⟨x, hx, rfl⟩ := List.mem_map.mp hw
      have := hlt x hx
      unfold fwd1
      split
      · exact ⟨this.2, this.1⟩
      · exact this
    have hfl : (fwd A).length ≤ 100000 := by unfold fwd; rw [List.length_map]; exact hlen
    have s2 : Same H1 (upd (upd H1 dx (.own p)) p (.ins T.C_Web dx [])) := (same_new hdx).trans (same_new (by rw [upd_ne hne.symm]; exact hp))
    refine ⟨p, dx, tw, ds, ws, webOf R (headWays S (fwd A)), rfl, webOf_ok (hR S hJ) hB (Nat.lt_of_le_of_lt (hRo.le b) hb) hn (head_lt hRo hbnd) (Nat.le_trans (headWays_len _ _) hfl), upd_same, s2 _ _ g2, dpAll_same s2 g3, fun H2 hW u2 => ⟨rfl, ?_⟩⟩
    refine q p S R H2 (s1.free hp) (fun c o hc => u2 _ _ (s2 _ _ (s1 _ _ hc)) (by simpa using ne_of_none (s1 _ _ hc) hp)) hJ hB hW
def MakesOk (ds : List (Fin 26)) (rs : List Row) (n m : Nat) : Prop := rs.length ≤ n ∧ ∀ r ∈ rs, OverD ds r ∧ r.length ≤ m
def spCheckMakers (K : PySem.W.Frag) : Sp := fun vs H Q _ => ∃ ds a rs, vs = [.str (dS ds), .ref a] ∧ RowsAt K H a rs ∧ Asc ds ∧ MakesOk ds rs 6 12 ∧ ∀ H', Same H H' → Q .non H'
theorem ok_check_makers (T : Top K mg) : FnOk P w K mg base CX0 5 T.d_check_makers.f T.d_check_makers.d ["deeds", "rows"] (spCheckMakers K) := by
  refine T.d_check_makers.F.ok sc_check_makers (fun vs H Q E h => ?_) (fun cdv A outer s H vs Q E hr h => ?_)
  · obtain ⟨ds, a, rs, rfl, _⟩ := h
    rfl
  · obtain ⟨ds, a, rs, rfl, hR, hA, ⟨h1, h2⟩, q⟩ := h
    refine ⟨_,
      (pss_cons (ps_expr (pe_call (ok_check_deeds T) (hr.mono (by decide)) (by rfl) T.d_check_deeds.g T.d_check_deeds.F.kp T.d_check_deeds.b .nil pass0 (pa_cons (pv 0) pa_nil)))
      (pss_one (ps_expr (pe_call (ok_check_rows T) (hr.mono (by decide)) (by rfl) T.d_check_rows.g T.d_check_rows.F.kp T.d_check_rows.b .nil pass0 (pa_cons (pv 0) (pa_cons (pv 1) (pa_cons (pe_glob (v := .int 6) rfl T.h_MOST_ROWS ⟨_, rfl⟩) (pa_cons (pe_glob (v := .int 12) rfl T.h_LONGEST ⟨_, rfl⟩) pa_nil))))))))
      , ?_⟩
    refine ⟨_, rfl, ds, rfl, hA, _, rfl, _, rfl, ds, a, rs, 6, 12, rfl, hR, ?_, h1, by omega, by omega, h2, fun H' s1 => q H' s1⟩
    have := hA.2.2
    omega
def spMade (K : PySem.W.Frag) (C : Addr) : Sp := fun vs H Q _ => ∃ ds a rs m, vs = [.str (dS ds), .ref a] ∧ RowsAt K H a rs ∧ ds.length ≤ 26 ∧ m ≤ 1000 ∧ MakesOk ds rs 50 m ∧ ∀ p w H', H p = none → Same H H' → IsWeb (lets ds) rs w → w.ways.length ≤ m * rs.length → WebAt K C H' p ds w → Q (.ref p) H'
theorem ok_made_web (T : Top K mg) : FnOk P w K mg base CX0 7 T.d_made_web.f T.d_made_web.d ["deeds", "rows"] (spMade K T.C_Web) := by
  refine T.d_made_web.F.ok sc_made_web (fun vs H Q E h => ?_) (fun cdv A outer s H vs Q E hr h => ?_)
  · obtain ⟨ds, a, rs, m, rfl, _⟩ := h
    rfl
  · obtain ⟨ds, a, rs, m, rfl, hR, hds, hm, ⟨hm1, hm2⟩, q⟩ := h
    have hu := hu_of hr
    refine ⟨_,
      (pss_cons (ps_set (i := 2) sc_made_web.nd rfl (Or.inl rfl) (pe_lst pa_nil))
      (pss_cons (ps_set (i := 3) sc_made_web.nd rfl (Or.inl rfl) pe_int)
      (pss_cons (ps_for PassesOwn.never rfl (pi_seq (pv 1)) (pg_name (i := 4) sc_made_web.nd rfl (Or.inl rfl))
      (pss_cons (ps_set (i := 5) sc_made_web.nd rfl (Or.inl rfl) (pe_call (ok_net_letters T) (hr.mono (by decide)) (by rfl) T.d_net_letters.g T.d_net_letters.F.kp T.d_net_letters.b .nil pass0 (pa_cons (pv 4) pa_nil)))
      (pss_cons (ps_expr (pe_bm PySem.F.plainAttrs_list PySem.F.slot_list_extend PySem.F.type_list_extend mt_extend (pv 2) (pa_cons (pe_call (ok_chain T) (hr.mono (by decide)) (by rfl) T.d_chain.g T.d_chain.F.kp T.d_chain.b .nil pass0 (pa_cons (pv 5) (pa_cons pe_int (pa_cons pe_int (pa_cons (pv 3) pa_nil))))) pa_nil)))
      (pss_one (ps_aug (i := 3) sc_made_web.nd rfl (Or.inl rfl) (pe_callB call_len_str (by rfl) T.z_len (by decide +kernel) (pa_cons (pv 5) pa_nil)) ip_add)))))
      (pss_one (ps_ret (pe_call (ok_folded T) (hr.mono (by decide)) (by rfl) T.d_folded.g T.d_folded.F.kp T.d_folded.b .nil pass0 (pa_cons (pv 0) (pa_cons (pv 3) (pa_cons (pv 2) (pa_cons pe_int pa_nil))))))))))
      , ?_⟩
    refine ⟨(by show 0 ≤ sizeLine; decide), fun d hd => ?_⟩
    have s1 : Same H (upd H d (.lst [])) := same_new hd
    refine ⟨_, rfl, a, rfl, for_seq (K := K) (xs := encR rs) (ds := rs) (List.length_map _) (fun pre σ H' => ∃ v4 v5 acc, σ = [some (.str (dS ds)), some (.ref a), some (.ref d), some (.int (laidMany 1 pre : Nat)), v4, v5] ∧ Same H H' ∧ H' d = some (.lst acc) ∧ DpAll K H' acc ((laid 1 pre).map encA))
      ⟨none, none, [], rfl, s1, upd_same, .nil⟩ ?_ ?_ ?_⟩
    · rcases hR with h | h
      · refine .inl ?_
        rintro pre σ H' ⟨_, _, _, _, s2, _⟩
        exact SqL.of (s2 _ _ h)
      · refine .inr ?_
        rintro pre σ H' ⟨_, _, _, _, s2, _⟩
        exact SqT.of (s2 _ _ h)
    · rintro pre r post x σ H' e hx ⟨v4, v5, acc, rfl, s2, hd2, hD⟩
      have ex := encR_at e hx
      subst ex
      have hpre : pre.length < 50 := by
        have := congrArg List.length e
        simp at this
        omega
      obtain ⟨ho, hrl⟩ := hm2 r (by rw [e]; simp)
      have hbig := laid_len pre 1 1000 (fun r hr => by have := (hm2 r (by rw [e]; simp [hr])).2; omega)
      have hnl := net_length_le r
      refine ⟨_, rfl, r, rfl, by omega, fun H1 s3 => ?_⟩
      have hd3 : H1 d = some (.lst acc) := s3 _ _ hd2
      refine ⟨_, rfl, .inl ⟨rfl, _, SqL.of hd3⟩, _, rfl, _, rfl, net r, 0, 0, laidMany 1 pre, rfl, by omega, fun c H2 hc s4 hC => ?_⟩
      obtain ⟨zs, hz, hDz⟩ := hC
      have hd4 : H2 d = some (.lst acc) := s4 _ _ hd3
      have hal : acc.length = (laid 1 pre).length := by rw [dp_len hD, List.length_map]
      have hzl : zs.length = (net r).length := by rw [dp_len hDz, List.length_map, chainA_len]
      refine ⟨d, c, acc, zs, rfl, rfl, hd4, hz, ?_, ?_⟩
      · show acc.length + zs.length ≤ sizeLine
        have : acc.length + zs.length < sizeLine := sz1M (by omega)
        omega
      refine ⟨_, rfl, _, rfl, _, rfl, by rw [rS_len]; exact Nat.le_of_lt (sz1M (by omega)), _, _, rfl, rfl, ?_⟩
      have kk : KeepT H2 (upd H2 d (.lst (acc ++ zs))) := KeepT.put (.inr (by rw [hd4]; exact True.intro))
      refine ⟨some (.str (rS r)), some (.str (rS (net r))), acc ++ zs, ?_, same_mut ((s2.trans s3).trans s4) hd, upd_same, ?_⟩
      · rw [laidMany_snoc]
        have : ((laidMany 1 pre : Nat) : Int) + ((rS (net r)).length : Nat) = ((laidMany 1 pre + (net r).length : Nat) : Int) := by rw [rS_len]; omega
        rw [← this]
        rfl
      · rw [laid_snoc, List.map_append]
        exact dp_app (dpAll_keep (k := (KeepT.of (s3.trans s4)).trans kk) hD (flat_arrs _)) (dpAll_keep (k := kk) hDz (flat_arrs _))
    · rintro σ H' ⟨v4, v5, acc, rfl, s2, hd2, hD⟩
      have hbig := laid_len rs 1 1000 (fun r hr => by have := (hm2 r hr).2; omega)
      have hbm := (laid_len rs 1 m (fun r hr => (hm2 r hr).2)).1
      have hls : ∀ x ∈ lets ds, x.inv ∈ lets ds := fun x hx => lets_inv hx
      have hro : ∀ r ∈ rs, ∀ x ∈ r, x ∈ lets ds := fun r hr => (hm2 r hr).1
      refine ⟨_, rfl, _, rfl, _, rfl, ds, laidMany 1 rs, d, 0, laid 1 rs, rfl, ⟨acc, hd2, hD⟩, by omega, by omega, ?_, ?_, hds, fun S hJ => ?_, fun p S R H2 hp s3 hJ hB hW => ?_⟩
      · have := laidMany_le (rs := rs) (fresh := 1)
        omega
      · rintro ⟨p, x, q⟩ hm
        obtain ⟨h1, h2, _⟩ := laid_lt (by omega) hm
        exact ⟨h1, h2⟩
      · obtain ⟨h1, h2, _⟩ := right_of_rows hls hro hJ
        rw [h1]
        exact h2
      · obtain ⟨h1, h2, _⟩ := right_of_rows hls hro hJ
        refine q p _ H2 (s2.free hp) (s2.trans s3) (isWeb_of hls hro hJ (fits_steps h2.det) hB) ?_ hW
        show (wsort (numb R _)).length ≤ _
        rw [wsort_length]
        refine Nat.le_trans (numb_len _ _) (Nat.le_trans (headWays_len _ _) ?_)
        unfold fwd
        rw [List.length_map]
        exact hbm
def spWebOf (K : PySem.W.Frag) (C : Addr) : Sp := fun vs H Q _ => ∃ ds a rs, vs = [.str (dS ds), .ref a] ∧ RowsAt K H a rs ∧ Asc ds ∧ MakesOk ds rs 6 12 ∧ ∀ p w H', H p = none → Same H H' → IsWeb (lets ds) rs w → w.ways.length ≤ 72 → WebAt K C H' p ds w → Q (.ref p) H'
end
end Rb
/-! is_integer. -/
namespace Rb
set_option linter.all false
set_option maxRecDepth 100000
set_option maxHeartbeats 4000000
open PySem PySem.Spec PyProof.Rows L2
section
variable {P : Program} {w : World} {K : PySem.W.Frag} {mg : Str → Option Value} {base : Heap}
def spIsInt : Sp := fun vs H Q _ => ∃ i : Int, vs = [.int i] ∧ Q (.bl true) H
theorem ok_is_integer (T : Top K mg) : FnOk P w K mg base CX0 1 T.d_is_integer.f T.d_is_integer.d ["thing"] spIsInt := by
  refine T.d_is_integer.F.ok sc_is_integer (fun vs H Q E h => ?_) (fun cdv A outer s H vs Q E hr h => ?_)
  · obtain ⟨i, rfl, _⟩ := h
    rfl
  · obtain ⟨i, rfl, q⟩ := h
    refine ⟨_,
      (pss_one (ps_ret (pe_and (pe_callB call_isi (by rfl) T.z_isinstance (by decide +kernel) (pa_cons (pv 0) (pa_cons (pe_bltn (v := .ty "int") (u := .type "int") (by rfl) T.z_int (by decide +kernel) rfl) pa_nil))) (pe_one (pe_not (pe_callB call_isi (by rfl) T.z_isinstance (by decide +kernel) (pa_cons (pv 0) (pa_cons (pe_bltn (v := .ty "bool") (u := .type "bool") (by rfl) T.z_bool (by decide +kernel) rfl) pa_nil))))))))
      , ?_⟩
    refine ⟨_, rfl, .int i, .ty "int", .type "int", .type "int", true, rfl, .ty _, .base (.int _), kit_ty (by decide +kernel), true, rfl, ?_⟩
    refine iteT ?_
    exact ⟨_, rfl, .int i, .ty "bool", .type "int", .type "bool", false, rfl, .ty _, .base (.int _), kit_ty (by decide +kernel), false, rfl, q⟩
end
end Rb
/-! Worlds. -/
namespace Rb
set_option linter.all false
set_option maxRecDepth 100000
set_option maxHeartbeats 4000000
open PySem PySem.Spec PyProof.Rows L2
def natV (l : List Nat) : List V := l.map fun n : Nat => V.int (n : Int)
theorem natV_len (l : List Nat) : (natV l).length = l.length := List.length_map _
theorem natV_at {l : List Nat} {i n : Nat} (h : l[i]? = some n) : (natV l)[i]? = some (.int (n : Nat)) := by
  unfold natV
  rw [List.getElem?_map, h]
  rfl
/-- a deed's way back, as a dict -/
def BackK (kvs : List (L2.Key × V)) (δ : Nat → Lt → Option Nat) (d : Fin 26) : Prop := ∀ q : Nat, valV kvs (.inl (q : Int)) = (δ q ⟨d, true⟩).map fun p : Nat => V.int p
/-- the moves of the deeds, a dict of tuples -/
def MovesAt (K : PySem.W.Frag) (H : Hp) (a : Addr) (ds : List (Fin 26)) (m : Wd) : Prop := ∃ kvs, H a = some (.dK kvs) ∧ ∀ d ∈ ds, ∃ t, valV kvs (.inr (lS ⟨d, false⟩)) = some (.ref t) ∧ H t = some (.tup (natV (m.mv d)))
/-- the moves of all letters -/
def AllAt (H : Hp) (a : Addr) (ds : List (Fin 26)) (f : Lt → List Nat) : Prop := ∃ kvs, H a = some (.dK kvs) ∧ ∀ x : Lt, x.d ∈ ds → ∃ t, valV kvs (.inr (lS x)) = some (.ref t) ∧ H t = some (.tup (natV (f x)))
theorem MovesAt.same {K : PySem.W.Frag} {H H' : Hp} {a : Addr} {ds : List (Fin 26)} {m : Wd} (h : MovesAt K H a ds m) (e : Same H H') : MovesAt K H' a ds m := by
  obtain ⟨kvs, h1, h2⟩ := h
  exact ⟨kvs, e _ _ h1, fun d hd => let ⟨t, g1, g2⟩ := h2 d hd; ⟨t, g1, e _ _ g2⟩⟩
theorem AllAt.same {H H' : Hp} {a : Addr} {ds : List (Fin 26)} {f : Lt → List Nat} (h : AllAt H a ds f) (e : Same H H') : AllAt H' a ds f := by
  obtain ⟨kvs, h1, h2⟩ := h
  exact ⟨kvs, e _ _ h1, fun d hd => let ⟨t, g1, g2⟩ := h2 d hd; ⟨t, g1, e _ _ g2⟩⟩
/-- a class of worlds -/
structure WC (K : PySem.W.Frag) (C : Addr) : Prop where
  cl : Cls K C
  deeds : NoAttr K C "deeds"
  size : NoAttr K C "size"
  moves : NoAttr K C "kept_moves"
  backs : NoAttr K C "kept_backs"
/-- a world over the deeds -/
def WorldAt (K : PySem.W.Frag) (C : Addr) (H : Hp) (p : Addr) (ds : List (Fin 26)) (m : Wd) : Prop := WdOk m ds ∧ m.size ≤ 200000 ∧ ∃ (dx a b : Addr),
  H p = some (.ins C dx [("deeds", .str (dS ds)), ("size", .int (m.size : Nat)), ("kept_moves", .ref a), ("kept_backs", .ref b)]) ∧ AllAt H a ds (mvL m) ∧ AllAt H b ds (fun x => mvL m x.inv)
theorem WorldAt.same {K : PySem.W.Frag} {C : Addr} {H H' : Hp} {p : Addr} {ds : List (Fin 26)} {m : Wd} (h : WorldAt K C H p ds m) (e : Same H H') : WorldAt K C H' p ds m := by
  obtain ⟨o, z, dx, a, b, h1, h2, h3⟩ := h
  exact ⟨o, z, dx, a, b, e _ _ h1, h2.same e, h3.same e⟩
theorem lets_d {ds : List (Fin 26)} {x : Lt} (h : x ∈ lets ds) : x.d ∈ ds := by
  unfold lets at h
  obtain ⟨d, hd, h2⟩ := List.mem_flatMap.mp h
  simp at h2
  rcases h2 with z | z <;> rw [z] <;> exact hd
theorem sqT_same {K : PySem.W.Frag} {H H' : Hp} {a : Addr} {xs : List V} (e : Same H H') (h : SqT K H a xs) : SqT K H' a xs := (KeepT.of e).sqT h
theorem dgK {H : Hp} {a : Addr} {kvs : List (L2.Key × V)} {k : L2.Key} {v : V} (e : H a = some (.dK kvs)) (h : valV kvs k = some v) : DGet H a (kV k) (some v) := by
  have := DGet.k (k := k) e
  rwa [h] at this
section
variable {K : PySem.W.Frag} {g : TG} {tb : TS} {D : Ends} {σ : L2.St} {H : Hp}
theorem deeds_back {ds : List (Fin 26)} {pre post : Row} {x : Lt} (e : ds.map (fun d => (⟨d, false⟩ : Lt)) = pre ++ x :: post) : ds = pre.map (·.d) ++ x.d :: post.map (·.d) ∧ x = ⟨x.d, false⟩ := by
  constructor
  · have h := congrArg (List.map (·.d)) e
    rw [List.map_map, List.map_append, List.map_cons] at h
    exact (List.map_id ds).symm.trans h
  · have hm : x ∈ ds.map (fun d => (⟨d, false⟩ : Lt)) := by rw [e]; simp
    obtain ⟨d, _, rfl⟩ := List.mem_map.mp hm
    rfl
theorem deeds_all (ds : List (Fin 26)) : (ds.map (fun d => (⟨d, false⟩ : Lt))).map (·.d) = ds := by
  rw [List.map_map]
  exact List.map_id ds
/-- over the deeds -/
theorem for_deeds {ds : List (Fin 26)} (Pv : List (Fin 26) → L2.St → Hp → Prop) (h0 : Pv [] σ H)
    (hs : ∀ pre d post σ H, ds = pre ++ d :: post → Pv pre σ H → g (.str (lS ⟨d, false⟩)) σ H fun σ2 H2 => tb { D with nx := Pv (pre ++ [d]), ct := Pv (pre ++ [d]), bk := D.nx } σ2 H2) (hd : ∀ σ H, Pv ds σ H → D.nx σ H) :
    ∃ W : Nat → Nat → L2.St → Hp → Prop, (∃ m, W 0 m σ H) ∧ ∀ i m σ H, W i m σ H →
      ((Its (dS ds)).stop i H ∧ D.nx σ H) ∨ ((Its (dS ds)).go i H ∧ ∃ N : L2.St → Hp → Prop, (∀ σ' H', N σ' H' → ∃ m', m' < m ∧ W (i + 1) m' σ' H') ∧ ∀ x H', (Its (dS ds)).yld i H x H' → g x σ H' fun σ2 H2 => tb { D with nx := N, ct := N, bk := D.nx } σ2 H2) := by
  refine for_row (r := ds.map fun d => ⟨d, false⟩) (fun r => Pv (r.map (·.d))) h0 (fun pre x post σ H e p => ?_) (fun σ H p => hd σ H (by rw [deeds_all] at p; exact p))
  obtain ⟨e1, e2⟩ := deeds_back e
  have := hs _ _ _ σ H e1 p
  rw [← e2] at this
  rw [List.map_append]
  exact this
theorem dc_deeds {tt : TT} {tk tv : TE} {vs : List Nat} {H1 : Hp} {A : Addr} {Qd : Hp → Prop} {ds : List (Fin 26)} (Pv : List (Fin 26) → Hp → Prop) (h0 : Pv [] (upd H1 A (.dK [])))
    (hs : ∀ pre d post H, ds = pre ++ d :: post → Pv pre H → g (.str (lS ⟨d, false⟩)) (wipe σ vs) H fun σ2 H2 => wipe σ2 vs = wipe σ vs ∧ tt σ2 H2 fun b H3 =>
      if b = true then tk σ2 H3 fun y H4 => tv σ2 H4 fun z H5 => ∃ kvs k, y = kV k ∧ H5 A = some (.dK kvs) ∧ kvs.length < sizeLine ∧ Pv (pre ++ [d]) (upd H5 A (.dK (putK kvs k z))) else Pv (pre ++ [d]) H3) (hd : ∀ H, Pv ds H → Qd H) :
    ∃ W : Nat → Nat → Hp → Prop, (∃ m, W 0 m (upd H1 A (.dK []))) ∧ ∀ i m H, W i m H →
      ((Its (dS ds)).stop i H ∧ Qd H) ∨ ((Its (dS ds)).go i H ∧ ∃ Nx : Hp → Prop, (∀ H', Nx H' → ∃ m', m' < m ∧ W (i + 1) m' H') ∧ ∀ x H', (Its (dS ds)).yld i H x H' → g x (wipe σ vs) H' fun σ2 H2 => wipe σ2 vs = wipe σ vs ∧ tt σ2 H2 fun b H3 =>
        if b = true then tk σ2 H3 fun y H4 => tv σ2 H4 fun z H5 => ∃ kvs k, y = kV k ∧ H5 A = some (.dK kvs) ∧ kvs.length < sizeLine ∧ Nx (upd H5 A (.dK (putK kvs k z))) else Nx H3) := by
  refine dc_row (r := ds.map fun d => ⟨d, false⟩) (fun r => Pv (r.map (·.d))) h0 (fun pre x post H e p => ?_) (fun H p => hd H (by rw [deeds_all] at p; exact p))
  obtain ⟨e1, e2⟩ := deeds_back e
  have := hs _ _ _ H e1 p
  rw [← e2] at this
  rw [List.map_append]
  exact this
end
section
variable {P : Program} {w : World} {K : PySem.W.Frag} {mg : Str → Option Value} {base : Heap}
def spRing : Sp := fun vs H Q _ => ∃ (b : Addr) (kvs : List (L2.Key × V)) (δ : Nat → Lt → Option Nat) (d : Fin 26) (k p e : Nat), vs = [.ref b, .int p] ∧ H b = some (.dK kvs) ∧ BackK kvs δ d ∧ Back δ d k p e ∧ Q (.int e) H
theorem ok_ring_end (T : Top K mg) : FnOk P w K mg base CX0 1 T.d_ring_end.f T.d_ring_end.d ["behind", "place"] spRing := by
  refine T.d_ring_end.F.ok sc_ring_end (fun vs H Q E h => ?_) (fun cdv A outer s H vs Q E hr h => ?_)
  · obtain ⟨b, kvs, δ, d, k, p, e, rfl, _⟩ := h
    rfl
  · obtain ⟨b, kvs, δ, d, k, p, e, rfl, hb, hK, hB, q⟩ := h
    have hu := hu_of hr
    refine ⟨_,
      (pss_cons (ps_while PassesOwn.never (pt_cmp (pc_din hu (pv 1) (pv 0)))
      (pss_one (ps_set (i := 1) sc_ring_end.nd rfl (Or.inl rfl) (pe_dget hu (pv 0) (pv 1) (fun _ _ => rfl)))))
      (pss_one (ps_ret (pv 1))))
      , ?_⟩
    refine while_w (fun m σ H' => ∃ p : Nat, σ = [some (.ref b), some (.int p)] ∧ H' = H ∧ Back δ d m p e) k ⟨p, rfl, rfl, hB⟩ ?_
    rintro m σ H' ⟨p, rfl, rfl, hB⟩
    refine ⟨_, rfl, _, rfl, b, _, rfl, DGet.k (k := .inl (p : Int)) hb, ?_⟩
    rw [hK p]
    cases hB with
    | stop h =>
      rw [h]
      refine ⟨_, rfl, iteF ?_⟩
      exact ⟨_, rfl, q⟩
    | @on k p q' e h t =>
      rw [h]
      refine ⟨_, rfl, iteT ?_⟩
      refine ⟨_, fun _ _ h => h, ?_⟩
      refine ⟨_, rfl, _, rfl, b, .int q', rfl, dgK (k := .inl (p : Int)) hb (by rw [hK p, h]; rfl), ?_⟩
      · exact ⟨k, Nat.lt_succ_self k, q', rfl, rfl, t⟩
/-- each place's standing by L -/
def invL (L : List Nat) : List Nat := (List.range L.length).map fun q => L.idxOf q
def spBackT (K : PySem.W.Frag) : Sp := fun vs H Q _ => ∃ (t : Addr) (L : List Nat), vs = [.ref t] ∧ SqT K H t (natV L) ∧ L.Perm (List.range L.length) ∧ L.length ≤ 200000 ∧ ∀ p H', H p = none → Same H H' → H' p = some (.tup (natV (invL L))) → Q (.ref p) H'
theorem ok_turned_back (T : Top K mg) : FnOk P w K mg base CX0 1 T.d_turned_back.f T.d_turned_back.d ["move"] (spBackT K) := by
  refine T.d_turned_back.F.ok sc_turned_back (fun vs H Q E h => ?_) (fun cdv A outer s H vs Q E hr h => ?_)
  · obtain ⟨t, L, rfl, _⟩ := h
    rfl
  · obtain ⟨t, L, rfl, ht, hP, hl, q⟩ := h
    have hu := hu_of hr
    refine ⟨_,
      (pss_cons (ps_setLc (i := 1) (own := [("standing", 2)]) (g := (gName 2)) (tt := tYes) rfl sc_turned_back.nd rfl rfl (sw_true rfl rfl rfl (by decide +kernel)) (pi_tup (pv 0)) (blkOk_by (N := N_turned_back) (sc := defScope s_turned_back) (by decide +kernel)) (fun _ _ _ _ _ => (pg_name (i := 2) sc_turned_back.nd rfl (Or.inl rfl))) (fun _ _ _ _ _ => pts_nil) (fun _ _ _ _ _ => pe_int))
      (pss_cons (ps_for PassesOwn.never rfl (pi_enumT (by rfl) T.z_enumerate (pa_cons (pv 0) pa_nil)) (pg_tup (by rfl) (pgs_cons (pg_name (i := 2) sc_turned_back.nd rfl (Or.inl rfl)) (pgs_cons (pg_name (i := 3) sc_turned_back.nd rfl (Or.inl rfl)) pgs_nil)))
      (pss_one (ps_asg (pv 2) (pg_sub (pv 1) (pv 3) set_list))))
      (pss_one (ps_ret (pe_callTy call_tuple_of (by rfl) T.z_tuple (by decide +kernel) (pa_cons (pv 1) pa_nil))))))
      , ?_⟩
    refine ⟨_, rfl, t, rfl, ⟨_, ht⟩, fun D hD => ?_⟩
    refine lc_tup (K := K) (xs := natV L) (fun i H' => Same H H' ∧ H' D = some (.lst (List.replicate i (.int 0)))) ⟨same_new hD, upd_same⟩ (fun i H' _ h => sqT_same h.1 ht) ?_ ?_
    · rintro i x H' hx ⟨s1, hd⟩
      have hi : i < L.length := by
        have := (List.getElem?_eq_some_iff.mp hx).1
        rw [natV_len] at this
        exact this
      refine ⟨rfl, yes_if ?_⟩
      refine ⟨_, hd, sz1M (by rw [List.length_replicate]; omega), same_mut s1 hD, ?_⟩
      rw [upd_same, ← List.replicate_succ']
    · rintro H1 ⟨s1, hd⟩
      rw [natV_len] at hd
      have ht1 : SqT K H1 t (natV L) := sqT_same s1 ht
      refine ⟨_, rfl, t, _, rfl, ht1, for_etup (K := K) (fun i σ H' => ∃ v2 v3 F, σ = [some (.ref t), some (.ref D), v2, v3] ∧ Same H H' ∧ H' D = some (.lst (natV F)) ∧ F.length = L.length ∧ ∀ j q, j < i → L[j]? = some q → F[q]? = some j)
        ⟨none, none, List.replicate L.length 0, rfl, s1, by rw [hd]; unfold natV; rw [List.map_replicate]; rfl, List.length_replicate, fun j q hj => by omega⟩ ?_ ?_ ?_⟩
      · rintro i σ H' ⟨_, _, _, _, s2, _⟩
        exact sqT_same s2 ht
      · rintro i x σ H' T hx ⟨v2, v3, F, rfl, s2, hF, hFl, hFv⟩ hT
        obtain ⟨q0, hq0, rfl⟩ : ∃ q0, L[i]? = some q0 ∧ x = .int (q0 : Nat) := by
          unfold natV at hx
          rw [List.getElem?_map] at hx
          cases e : L[i]? with
          | none => rw [e] at hx; cases hx
          | some q0 => rw [e] at hx; exact ⟨q0, rfl, (Option.some.inj hx).symm⟩
        have hDT : D ≠ T := ne_of_none hF hT
        have hqlt : q0 < L.length := by
          have := hP.mem_iff.mp (List.mem_of_getElem? hq0)
          exact List.mem_range.mp this
        refine ⟨T, _, rfl, SqT.of upd_same, rfl, _, _, rfl, _, _, rfl, rfl, ?_⟩
        refine ⟨_, rfl, _, rfl, _, rfl, D, natV F, _, q0, rfl, rfl, by rw [upd_ne hDT]; exact hF, ?_, ?_⟩
        · rw [natV_len, hFl]
          exact ix_nat hqlt
        refine ⟨_, _, F.set q0 i, rfl, same_mut (s2.trans (same_new hT)) hD, ?_, by rw [List.length_set]; exact hFl, ?_⟩
        · rw [upd_same]
          unfold natV
          rw [List.map_set]
        · intro j q hj hq
          rw [List.getElem?_set]
          by_cases e : q0 = q
          · rw [if_pos e, if_pos (by omega)]
            subst e
            obtain ⟨h1, e1⟩ := List.getElem?_eq_some_iff.mp hq
            obtain ⟨h2, e2⟩ := List.getElem?_eq_some_iff.mp hq0
            have nd : L.Nodup := hP.nodup_iff.mpr List.nodup_range
            rcases Nat.lt_trichotomy j i with z | z | z
            · exact absurd (e1.trans e2.symm) (List.pairwise_iff_getElem.mp nd _ _ h1 h2 z)
            · rw [z]
            · omega
          · rw [if_neg e]
            refine hFv j q ?_ hq
            rcases Nat.lt_or_ge j i with z | z
            · exact z
            · have : j = i := by omega
              subst this
              rw [hq0] at hq
              exact absurd (Option.some.inj hq) e
      · rintro σ H' ⟨v2, v3, F, rfl, s2, hF, hFl, hFv⟩
        rw [natV_len] at hFv
        refine ⟨_, rfl, D, natV F, rfl, .inl ⟨SqL.of hF, fun l hl => ?_⟩⟩
        have eF : F = invL L := by
          refine List.ext_getElem? fun q => ?_
          unfold invL
          rw [List.getElem?_map]
          by_cases hq : q < L.length
          · rw [List.getElem?_range hq]
            have hm : q ∈ L := hP.mem_iff.mpr (List.mem_range.mpr hq)
            have hi := List.idxOf_lt_length_of_mem hm
            exact hFv _ _ hi (by rw [List.getElem?_eq_getElem hi, List.getElem_idxOf hi])
          · rw [List.getElem?_eq_none (by omega), List.getElem?_eq_none (by rw [List.length_range]; omega)]
            rfl
        subst eF
        have hl0 : H l = none := s2.free hl
        exact q l _ hl0 (s2.trans (same_new hl)) upd_same
def spAllMoves (K : PySem.W.Frag) : Sp := fun vs H Q _ => ∃ (ds : List (Fin 26)) (a : Addr) (m : Wd), vs = [.str (dS ds), .ref a] ∧ ds.length ≤ 26 ∧ WdOk m ds ∧ m.size ≤ 200000 ∧ MovesAt K H a ds m ∧ ∀ p H', H p = none → Same H H' → AllAt H' p ds (mvL m) → Q (.ref p) H'
theorem ok_all_moves (T : Top K mg) : FnOk P w K mg base CX0 2 T.d_all_moves.f T.d_all_moves.d ["deeds", "moves"] (spAllMoves K) := by
  refine T.d_all_moves.F.ok sc_all_moves (fun vs H Q E h => ?_) (fun cdv A outer s H vs Q E hr h => ?_)
  · obtain ⟨ds, a, m, rfl, _⟩ := h
    rfl
  · obtain ⟨ds, a, m, rfl, hds, hm, hz, hM, q⟩ := h
    have hu := hu_of hr
    refine ⟨_,
      (pss_cons (ps_set (i := 2) sc_all_moves.nd rfl (Or.inl rfl) pe_dnewK)
      (pss_cons (ps_for PassesOwn.never rfl (pi_str (pv 0)) (pg_name (i := 3) sc_all_moves.nd rfl (Or.inl rfl))
      (pss_cons (ps_dput hu (pv 2) (pv 3) (pe_dget hu (pv 1) (pv 3) (fun _ _ => rfl)) rfl)
      (pss_one (ps_dput hu (pv 2) (pe_call (ok_undoing_of T) (hr.mono (by decide)) (by rfl) T.d_undoing_of.g T.d_undoing_of.F.kp T.d_undoing_of.b .nil pass0 (pa_cons (pv 3) pa_nil)) (pe_call (ok_turned_back T) (hr.mono (by decide)) (by rfl) T.d_turned_back.g T.d_turned_back.F.kp T.d_turned_back.b .nil pass0 (pa_cons (pe_dget hu (pv 1) (pv 3) (fun _ _ => rfl)) pa_nil)) rfl))))
      (pss_one (ps_ret (pv 2)))))
      , ?_⟩
    obtain ⟨kvs, hk, hv⟩ := hM
    intro D hD
    have hlt : ∀ d ∈ ds, (m.mv d).length = m.size := fun d hd => hm.len hd
    refine ⟨_, rfl, _, rfl, for_deeds (fun pre σ H' => ∃ v3 acc, σ = [some (.str (dS ds)), some (.ref a), some (.ref D), v3] ∧ Same H H' ∧ H' D = some (.dK acc) ∧ acc.length ≤ 2 * pre.length ∧ ∀ x : Lt, x.d ∈ pre → ∃ t, valV acc (.inr (lS x)) = some (.ref t) ∧ H' t = some (.tup (natV (mvL m x))))
      ⟨none, [], rfl, same_new hD, upd_same, Nat.zero_le _, by simp⟩ ?_ ?_⟩
    · rintro pre d post σ H' e ⟨v3, acc, rfl, s1, hacc, hl, hx⟩
      have hd : d ∈ ds := by rw [e]; simp
      have hpre : pre.length < 26 := by
        have := congrArg List.length e
        simp at this
        omega
      obtain ⟨t, ht, htt⟩ := hv d hd
      refine ⟨_, rfl, _, rfl, a, .ref t, rfl, dgK (k := .inr (lS ⟨d, false⟩)) (s1 _ _ hk) ht, ?_⟩
      refine ⟨_, rfl, _, rfl, D, _, rfl, DPut.k (k := .inr (lS ⟨d, false⟩)) hacc (sz1M (by omega)), ?_⟩
      have s2 : Same H (upd H' D (.dK (putK acc (.inr (lS ⟨d, false⟩)) (.ref t)))) := same_mut s1 hD
      refine ⟨_, rfl, _, rfl, a, .ref t, rfl, dgK (k := .inr (lS ⟨d, false⟩)) (s2 _ _ hk) ht, ?_⟩
      refine ⟨t, m.mv d, rfl, SqT.of (s2 _ _ htt), by rw [hlt d hd]; exact hm.perm d hd, by rw [hlt d hd]; exact hz, fun t2 H2 ht2 s3 h2 => ?_⟩
      have hD2 : H2 D = some (.dK (putK acc (.inr (lS ⟨d, false⟩)) (.ref t))) := s3 _ _ upd_same
      have l3 := length_putK acc (.inr (lS ⟨d, false⟩)) (V.ref t)
      refine ⟨_, rfl, _, rfl, [⟨d, false⟩], rfl, by simp, D, _, rfl, DPut.k (k := .inr (lS ⟨d, true⟩)) hD2 (sz1M (by omega)), ?_⟩
      have l4 := length_putK (putK acc (.inr (lS ⟨d, false⟩)) (.ref t)) (.inr (lS ⟨d, true⟩)) (V.ref t2)
      have hne : ∀ t', H t' ≠ none → t' ≠ D := fun t' h e => h (by rw [e]; exact hD)
      refine ⟨_, _, rfl, same_mut (s2.trans s3) hD, upd_same, by rw [List.length_append]; simp only [List.length_cons, List.length_nil]; omega, ?_⟩
      intro x hxm
      rw [valV_put, valV_put]
      have old : ∀ t' o, H' t' = some (.tup o) → t' ≠ D → (upd H2 D (.dK (putK (putK acc (.inr (lS ⟨d, false⟩)) (.ref t)) (.inr (lS ⟨d, true⟩)) (.ref t2)))) t' = some (.tup o) := fun t' o h1 h2 => by
        rw [upd_ne h2]
        exact s3 _ _ (by rw [upd_ne h2]; exact h1)
      by_cases e1 : x = ⟨d, true⟩
      · subst e1
        refine ⟨t2, by rw [if_pos rfl], ?_⟩
        have htD : t2 ≠ D := by
          rintro rfl
          rw [hD2] at h2
          cases h2
        rw [upd_ne htD, h2]
        have : invL (m.mv d) = mvL m ⟨d, true⟩ := by
          unfold invL mvL
          rw [hlt d hd]
          rfl
        rw [this]
      · have k1 : ¬ ((Sum.inr (lS x) : L2.Key) = Sum.inr (lS ⟨d, true⟩)) := fun z => e1 (lS_inj (Sum.inr.inj z))
        rw [if_neg k1]
        by_cases e2 : x = ⟨d, false⟩
        · subst e2
          refine ⟨t, by rw [if_pos rfl], old t _ (s1 _ _ htt) ?_⟩
          rintro rfl
          rw [hD] at htt
          cases htt
        · have k2 : ¬ ((Sum.inr (lS x) : L2.Key) = Sum.inr (lS ⟨d, false⟩)) := fun z => e2 (lS_inj (Sum.inr.inj z))
          rw [if_neg k2]
          have hp : x.d ∈ pre := by
            rcases List.mem_append.mp hxm with z | z
            · exact z
            · have z2 : x.d = d := List.mem_singleton.mp z
              obtain ⟨xd, xu⟩ := x
              simp only at z2
              subst z2
              cases xu
              · exact absurd rfl e2
              · exact absurd rfl e1
          obtain ⟨t', g1, g2⟩ := hx x hp
          refine ⟨t', g1, old t' _ g2 ?_⟩
          rintro rfl
          rw [hacc] at g2
          cases g2
    · rintro σ H' ⟨v3, acc, rfl, s1, hacc, hl, hx⟩
      exact ⟨_, rfl, q D H' hD s1 ⟨acc, hacc, hx⟩⟩
def spKeep (K : PySem.W.Frag) (C : Addr) : Sp := fun vs H Q _ => ∃ (p dx a : Addr) (ds : List (Fin 26)) (m : Wd), vs = [.ref p, .str (dS ds), .ref a] ∧ H p = some (.ins C dx []) ∧ 1 ≤ ds.length ∧ ds.length ≤ 26 ∧ WdOk m ds ∧ m.size ≤ 200000 ∧ MovesAt K H a ds m ∧
  ∀ H', WorldAt K C H' p ds m → Upto [p] H H' → Q .non H'
theorem ok_World_keep (T : Top K mg) {C : Addr} (c : WC K C) : FnOk P w K mg base CX0 3 T.m_World_keep.f T.m_World_keep.d ["self", "deeds", "moves"] (spKeep K C) := by
  refine T.m_World_keep.F.ok sc_World_keep (fun vs H Q E h => ?_) (fun cdv A outer s H vs Q E hr h => ?_)
  · obtain ⟨p, dx, a, ds, m, rfl, _⟩ := h
    rfl
  · obtain ⟨p, dx, a, ds, m, rfl, hp, hd1, hd2, hm, hz, hM, q⟩ := h
    have hu := hu_of hr
    refine ⟨_,
      (pss_cons (ps_fld (pv 0) (pv 1) rfl)
      (pss_cons (ps_fld (pv 0) (pe_callB call_len_seq (by rfl) T.z_len (by decide +kernel) (pa_cons (pe_dget hu (pv 2) (pe_ix ix_str (pv 1) pe_int (fun _ _ => rfl)) (fun _ _ => rfl)) pa_nil)) rfl)
      (pss_cons (ps_fld (pv 0) (pe_call (ok_all_moves T) (hr.mono (by decide)) (by rfl) T.d_all_moves.g T.d_all_moves.F.kp T.d_all_moves.b .nil pass0 (pa_cons (pv 1) (pa_cons (pv 2) pa_nil))) rfl)
      (pss_one (ps_fld (pv 0) (pe_dc (own := [("letter", 3)]) (g := (gName 3)) (tt := tYes) rfl sc_World_keep.nd (pi_tup (pe_call (ok_letters_over T) (hr.mono (by decide)) (by rfl) T.d_letters_over.g T.d_letters_over.F.kp T.d_letters_over.b .nil pass0 (pa_cons (pv 1) pa_nil))) (blkOk_by (N := N_World_keep) (sc := defScope s_World_keep) (by decide +kernel)) (fun _ _ _ _ _ => (pg_name (i := 3) sc_World_keep.nd rfl (Or.inl rfl))) (fun _ _ _ _ _ => pts_nil) (fun _ _ _ _ _ => (pv 3)) (fun _ _ _ _ _ => (pe_dget hu (pe_fldK (K := K) rfl (pv 0) rfl) (pe_call (ok_undoing_of T) (hr.mono (by decide)) (by rfl) T.d_undoing_of.g T.d_undoing_of.F.kp T.d_undoing_of.b .nil pass0 (pa_cons (pv 3) pa_nil)) (fun _ _ => rfl)))) rfl)))))
      , ?_⟩
    refine ⟨_, rfl, _, rfl, p, C, dx, _, rfl, hp, c.cl, c.deeds, by show 0 < 1000; decide, ?_⟩
    have keepM : ∀ {H' : Hp}, Upto [p] H H' → MovesAt K H' a ds m := fun {H'} e => by
      obtain ⟨kvs, g1, g2⟩ := hM
      have ne : ∀ {b o}, H b = some o → (∀ dx fs, o ≠ .ins C dx fs) → b ∉ [p] := fun {b o} h1 h2 z => by
        rw [List.mem_singleton.mp z, hp] at h1
        exact h2 _ _ (Option.some.inj h1).symm
      exact ⟨kvs, e _ _ g1 (ne g1 fun _ _ z => by cases z), fun d hd => let ⟨t, k1, k2⟩ := g2 d hd; ⟨t, k1, e _ _ k2 (ne k2 fun _ _ z => by cases z)⟩⟩
    have u1 : ∀ o, Upto [p] H (upd H p o) := fun o b u hb hn => by rw [upd_ne (by simpa using hn)]; exact hb
    obtain ⟨kvs, g1, g2⟩ := keepM (u1 (.ins C dx (putF "deeds" (.str (dS ds)) [])))
    obtain ⟨d0, hd0⟩ : ∃ d0, ds[0]? = some d0 := ⟨_, List.getElem?_eq_getElem (by omega)⟩
    obtain ⟨t0, k1, k2⟩ := g2 d0 (List.mem_of_getElem? hd0)
    have hsz : (dS ds).length ≤ sizeLine := by rw [dS_len]; exact Nat.le_trans hd2 (by decide)
    refine ⟨_, rfl, _, rfl, _, _, _, rfl, rfl, hsz, dS_get hd0, a, .ref t0, rfl, dgK (k := .inr (lS ⟨d0, false⟩)) g1 k1, t0, _, rfl, .inr (SqT.of k2), ?_⟩
    rw [natV_len, hm.len (List.mem_of_getElem? hd0)]
    refine ⟨_, rfl, p, C, dx, _, rfl, upd_same, c.cl, c.size, by show 1 < 1000; decide, ?_⟩
    rw [upd_upd]
    refine ⟨_, rfl, _, rfl, ds, a, m, rfl, hd2, hm, hz, keepM (u1 _), fun k H3 hk s3 hAll => ?_⟩
    have hp3 := s3 _ _ upd_same
    refine ⟨_, rfl, p, C, dx, _, rfl, hp3, c.cl, c.moves, by show 2 < 1000; decide, ?_⟩
    generalize ho4 : putF "kept_moves" _ _ = fs4
    have hAll3 : AllAt (upd H3 p (.ins C dx fs4)) k ds (mvL m) := by
      obtain ⟨kv, a1, a2⟩ := hAll
      have ne : ∀ {b kvs}, H3 b = some (.dK kvs) → b ≠ p := fun {b kvs} h1 z => by rw [z, hp3] at h1; cases h1
      have ne2 : ∀ {b kvs}, H3 b = some (.tup kvs) → b ≠ p := fun {b kvs} h1 z => by rw [z, hp3] at h1; cases h1
      exact ⟨kv, by rw [upd_ne (ne a1)]; exact a1, fun x hx => let ⟨t, b1, b2⟩ := a2 x hx; ⟨t, b1, by rw [upd_ne (ne2 b2)]; exact b2⟩⟩
    have u4 : Upto [p] H (upd H3 p (.ins C dx fs4)) := upto_in ((u1 _).trans (Upto.of s3)) (by simp)
    have hp4 : (upd H3 p (.ins C dx fs4)) p = some (.ins C dx fs4) := upd_same
    generalize upd H3 p (.ins C dx fs4) = H4 at *
    refine ⟨_, rfl, ds, rfl, hd2, fun lt H5 hlt s5 hlt5 => ?_⟩
    have hp5 := s5 _ _ hp4
    refine ⟨lt, rfl, ⟨_, SqT.of hlt5⟩, fun D hD => ?_⟩
    have hAll5 := hAll3.same s5
    refine dc_tup (K := K) (xs := (lets ds).map fun x => .str (lS x)) (fun i H' => ∃ acc, Same H5 H' ∧ H' D = some (.dK acc) ∧ acc.length ≤ i ∧ ∀ x ∈ (lets ds).take i, ∃ t, valV acc (.inr (lS x)) = some (.ref t) ∧ H' t = some (.tup (natV (mvL m x.inv))))
      ⟨[], same_new hD, upd_same, Nat.zero_le _, by simp⟩ ?_ ?_ ?_
    · rintro i H' _ ⟨_, s6, _⟩
      exact SqT.of (s6 _ _ hlt5)
    · rintro i x H' hx ⟨acc, s6, hacc, hl, hv⟩
      obtain ⟨y, hy, rfl⟩ : ∃ y, (lets ds)[i]? = some y ∧ x = .str (lS y) := by
        rw [List.getElem?_map] at hx
        cases e : (lets ds)[i]? with
        | none => rw [e] at hx; cases hx
        | some q0 => rw [e] at hx; exact ⟨q0, rfl, (Option.some.inj hx).symm⟩
      have hyd : y.inv.d ∈ ds := by
        have hm := List.mem_of_getElem? hy
        unfold lets at hm
        obtain ⟨d, hd, h2⟩ := List.mem_flatMap.mp hm
        simp at h2
        rcases h2 with z | z <;> rw [z] <;> exact hd
      have hi : i < 52 := by
        have h1 := (List.getElem?_eq_some_iff.mp hy).1
        have h2 := lets_len ds
        omega
      obtain ⟨kv, a1, a2⟩ := hAll5
      obtain ⟨t, b1, b2⟩ := a2 y.inv hyd
      refine ⟨rfl, yes_if ?_⟩
      refine ⟨_, rfl, ?_⟩
      refine ⟨_, rfl, p, C, dx, _, _, rfl, s6 _ _ hp5, c.cl, c.moves, by rw [← ho4]; rfl, ?_⟩
      refine ⟨_, rfl, [y], rfl, by simp, k, .ref t, rfl, dgK (k := .inr (lS y.inv)) (s6 _ _ a1) b1, acc, .inr (lS y), rfl, hacc, sz1M (by omega), putK acc (.inr (lS y)) (.ref t), same_mut s6 hD, upd_same, Nat.le_trans (length_putK _ _ _) (by omega), ?_⟩
      intro x hx
      rw [valV_put]
      by_cases e : x = y
      · subst e
        refine ⟨t, by rw [if_pos rfl], ?_⟩
        have htD : t ≠ D := by
          rintro rfl
          rw [hD] at b2
          cases b2
        rw [upd_ne htD]
        exact s6 _ _ b2
      · have k1 : ¬ ((Sum.inr (lS x) : L2.Key) = Sum.inr (lS y)) := fun z => e (lS_inj (Sum.inr.inj z))
        rw [if_neg k1]
        rw [take_snoc hy] at hx
        rcases List.mem_append.mp hx with z | z
        · obtain ⟨t', c1, c2⟩ := hv x z
          refine ⟨t', c1, ?_⟩
          have htD : t' ≠ D := by
            rintro rfl
            rw [hacc] at c2
            cases c2
          rw [upd_ne htD]
          exact c2
        · exact absurd (List.mem_singleton.mp z) e
    · rintro H6 ⟨acc, s6, hacc, hl, hv⟩
      rw [List.length_map, take_all] at hv
      have hp6 := s6 _ _ hp5
      refine ⟨_, rfl, p, C, dx, _, rfl, hp6, c.cl, c.backs, by rw [← ho4]; show 3 < 1000; decide, ?_⟩
      subst ho4
      have ne : ∀ {b kvs}, H6 b = some (.dK kvs) → b ≠ p := fun {b kvs} h1 z => by rw [z, hp6] at h1; cases h1
      have ne2 : ∀ {b kvs}, H6 b = some (.tup kvs) → b ≠ p := fun {b kvs} h1 z => by rw [z, hp6] at h1; cases h1
      refine q _ ⟨hm, hz, dx, k, D, upd_same, ?_, ?_⟩ (upto_in ((u4.trans (Upto.of s5)).trans (Upto.of s6)) (by simp))
      · obtain ⟨kv, a1, a2⟩ := hAll5.same s6
        exact ⟨kv, by rw [upd_ne (ne a1)]; exact a1, fun x hx => let ⟨t, b1, b2⟩ := a2 x hx; ⟨t, b1, by rw [upd_ne (ne2 b2)]; exact b2⟩⟩
      · refine ⟨acc, by rw [upd_ne (ne hacc)]; exact hacc, fun x hx => ?_⟩
        have hxl : x ∈ lets ds := by
          unfold lets
          refine List.mem_flatMap.mpr ⟨x.d, hx, ?_⟩
          obtain ⟨d, u⟩ := x
          cases u <;> simp
        obtain ⟨t, b1, b2⟩ := hv x hxl
        exact ⟨t, b1, by rw [upd_ne (ne2 b2)]; exact b2⟩
theorem wcR (T : Top K mg) : WC K T.C_RawWorld := ⟨T.k_RawWorld.cl, T.n_RawWorld_deeds, T.n_RawWorld_size, T.n_RawWorld_kept_moves, T.n_RawWorld_kept_backs⟩
theorem ok_RawWorld___init__ (T : Top K mg) : FnOk P w K mg base CX0 4 T.m_RawWorld___init__.f T.m_RawWorld___init__.d ["self", "deeds", "moves"] (spKeep K T.C_RawWorld) := by
  refine T.m_RawWorld___init__.F.ok sc_RawWorld___init__ (fun vs H Q E h => ?_) (fun cdv A outer s H vs Q E hr h => ?_)
  · obtain ⟨p, dx, a, ds, m, rfl, _⟩ := h
    rfl
  · obtain ⟨p, dx, a, ds, m, rfl, hp, hd1, hd2, hm, hz, hM, q⟩ := h
    have hu := hu_of hr
    have c := wcR T
    refine ⟨_,
      (pss_one (ps_expr (pe_meth (pv 0) T.k_RawWorld.cl T.o_RawWorld_keep (ok_World_keep T c) (hr.mono (by decide)) T.m_World_keep.b .nil pass0 (pa_cons (pv 1) (pa_cons (pv 2) pa_nil)))))
      , ?_⟩
    refine ⟨_, rfl, p, dx, _, rfl, hp, rfl, _, rfl, _, rfl, p, dx, a, ds, m, rfl, hp, hd1, hd2, hm, hz, hM, fun H' h1 h2 => ?_⟩
    exact q H' h1 h2
/-- the moves told, in the order of the deeds -/
def ToldAt (H : Hp) (a : Addr) (ds : List (Fin 26)) (m : Wd) : Prop := ∃ ts : List (Fin 26 × Addr), ts.map (·.1) = ds ∧ H a = some (.dK (ts.map fun e => (.inr (lS ⟨e.1, false⟩), .ref e.2))) ∧ ∀ e ∈ ts, H e.2 = some (.tup (natV (m.mv e.1)))
theorem val_told {d : Fin 26} : ∀ {ts : List (Fin 26 × Addr)}, d ∉ ts.map (·.1) → valV (ts.map fun e => ((.inr (lS ⟨e.1, false⟩) : L2.Key), V.ref e.2)) (.inr (lS ⟨d, false⟩)) = none
  | [], _ => rfl
  | e :: ts, h => by
    rw [List.map_cons, valV_neg]
    · exact val_told fun z => h (by simp at z ⊢; exact .inr z)
    · intro z
      have := lS_inj (Sum.inr.inj z)
      cases this
      exact h (by simp)
theorem told_val {d : Fin 26} {t : Addr} : ∀ {ts : List (Fin 26 × Addr)}, (ts.map (·.1)).Nodup → (d, t) ∈ ts → valV (ts.map fun e => ((.inr (lS ⟨e.1, false⟩) : L2.Key), V.ref e.2)) (.inr (lS ⟨d, false⟩)) = some (.ref t)
  | [], _, h => by cases h
  | e :: ts, nd, h => by
    rw [List.map_cons, List.nodup_cons] at nd
    rw [List.map_cons]
    rcases List.mem_cons.mp h with z | z
    · subst z
      exact valV_pos rfl
    · rw [valV_neg]
      · exact told_val nd.2 z
      · intro z2
        have := lS_inj (Sum.inr.inj z2)
        cases this
        exact nd.1 (List.mem_map.mpr ⟨_, z, rfl⟩)
def spMoves (K : PySem.W.Frag) (C : Addr) : Sp := fun vs H Q _ => ∃ (p : Addr) (ds : List (Fin 26)) (m : Wd), vs = [.ref p] ∧ WorldAt K C H p ds m ∧ ds.Nodup ∧ ds.length ≤ 26 ∧ ∀ a H', H a = none → Same H H' → ToldAt H' a ds m → Q (.ref a) H'
theorem ok_World_moves (T : Top K mg) {C : Addr} (c : WC K C) : FnOk P w K mg base CX0 1 T.p_World_moves.f T.p_World_moves.d ["self"] (spMoves K C) := by
  refine T.p_World_moves.F.ok sc_World_moves (fun vs H Q E h => ?_) (fun cdv A outer s H vs Q E hr h => ?_)
  · obtain ⟨p, ds, m, rfl, _⟩ := h
    rfl
  · obtain ⟨p, ds, m, rfl, ⟨hm, hz, dx, k, b, hp, ⟨kv, a1, a2⟩, _⟩, hnd, hd2, q⟩ := h
    have hu := hu_of hr
    refine ⟨_,
      (pss_one (ps_ret (pe_dc (own := [("deed", 1)]) (g := (gName 1)) (tt := tYes) rfl sc_World_moves.nd (pi_str (pe_fld (pv 0) rfl)) (blkOk_by (N := N_World_moves) (sc := defScope s_World_moves) (by decide +kernel)) (fun _ _ _ _ _ => (pg_name (i := 1) sc_World_moves.nd rfl (Or.inl rfl))) (fun _ _ _ _ _ => pts_nil) (fun _ _ _ _ _ => (pv 1)) (fun _ _ _ _ _ => (pe_dget hu (pe_fldK (K := K) rfl (pv 0) rfl) (pv 1) (fun _ _ => rfl))))))
      , ?_⟩
    refine ⟨_, rfl, p, C, dx, _, _, rfl, hp, c.cl, c.deeds, rfl, _, rfl, fun D hD => ?_⟩
    refine dc_deeds (fun pre H' => ∃ ts : List (Fin 26 × Addr), ts.map (·.1) = pre ∧ Same H H' ∧ H' D = some (.dK (ts.map fun e => (.inr (lS ⟨e.1, false⟩), .ref e.2))) ∧ ∀ e ∈ ts, H e.2 = some (.tup (natV (m.mv e.1))))
      ⟨[], rfl, same_new hD, upd_same, by simp⟩ ?_ ?_
    · rintro pre d post H' e ⟨ts, rfl, s1, hD1, hv⟩
      have hdm : d ∈ ds := by rw [e]; simp
      obtain ⟨t, b1, b2⟩ := a2 ⟨d, false⟩ hdm
      have hl : (ts.map (·.1)).length < 26 := by
        have := congrArg List.length e
        simp at this ⊢
        omega
      have hno : d ∉ ts.map (·.1) := by
        rw [e] at hnd
        intro z
        exact (List.nodup_append.mp hnd).2.2 _ z _ (by simp) rfl
      refine ⟨rfl, yes_if ?_⟩
      refine ⟨_, rfl, ?_⟩
      refine ⟨_, rfl, p, C, dx, _, _, rfl, s1 _ _ hp, c.cl, c.moves, rfl, ?_⟩
      refine ⟨_, rfl, k, .ref t, rfl, dgK (k := .inr (lS ⟨d, false⟩)) (s1 _ _ a1) b1, _, .inr (lS ⟨d, false⟩), rfl, hD1, sz1M (by rw [List.length_map] at hl ⊢; omega), ts ++ [(d, t)], by simp, same_mut s1 hD, ?_, ?_⟩
      · rw [upd_same, putK_new _ (val_told hno), List.map_append]
        rfl
      · intro e2 he
        rcases List.mem_append.mp he with z | z
        · exact hv e2 z
        · rw [List.mem_singleton.mp z]
          exact b2
    · rintro H' ⟨ts, e1, s1, hD1, hv⟩
      exact q D H' hD s1 ⟨ts, e1, hD1, fun e he => s1 _ _ (hv e he)⟩
def spStd (K : PySem.W.Frag) (C : Addr) : Sp := fun vs H Q _ => ∃ (p : Addr) (ds : List (Fin 26)) (m : Wd) (i : Nat), vs = [.ref p, .int i] ∧ WorldAt K C H p ds m ∧ i < m.size ∧ Q .non H
def spLed (K : PySem.W.Frag) (C : Addr) : Sp := fun vs H Q _ => ∃ (p : Addr) (ds : List (Fin 26)) (m : Wd) (i : Nat) (r : Row), vs = [.ref p, .int i, .str (rS r)] ∧ WorldAt K C H p ds m ∧ ds.length ≤ 26 ∧ i < m.size ∧ OverD ds r ∧ Q (.int (goM m i r)) H
def spIsStd : Sp := fun vs H Q _ => ∃ (n i : Nat), vs = [.int n, .int i] ∧ i < n ∧ Q (.bl true) H
theorem ok_is_standing (T : Top K mg) : FnOk P w K mg base CX0 2 T.d_is_standing.f T.d_is_standing.d ["size", "thing"] spIsStd := by
  refine T.d_is_standing.F.ok sc_is_standing (fun vs H Q E h => ?_) (fun cdv A outer s H vs Q E hr h => ?_)
  · obtain ⟨n, i, rfl, _⟩ := h
    rfl
  · obtain ⟨n, i, rfl, hi, q⟩ := h
    refine ⟨_,
      (pss_one (ps_ret (pe_and (pe_call (ok_is_integer T) (hr.mono (by decide)) (by rfl) T.d_is_integer.g T.d_is_integer.F.kp T.d_is_integer.b .nil pass0 (pa_cons (pv 1) pa_nil)) (pe_one (pe_chain op_le op_lt pe_int (pv 1) (pv 0))))))
      , ?_⟩
    refine ⟨_, rfl, i, rfl, true, rfl, ?_⟩
    refine iteT ?_
    refine ⟨_, rfl, _, _, rfl, rfl, _, rfl, ?_⟩
    rw [decide_eq_true (show (0 : Int) ≤ (i : Nat) by omega)]
    refine iteT ?_
    refine ⟨_, rfl, _, _, rfl, rfl, ?_⟩
    show Q (V.bl (decide (((i : Nat) : Int) < (n : Nat)))) H
    rw [decide_eq_true (by omega)]
    exact q
theorem ok_check_standing (T : Top K mg) {C : Addr} (c : WC K C) : FnOk P w K mg base CX0 3 T.d_check_standing.f T.d_check_standing.d ["world", "standing"] (spStd K C) := by
  refine T.d_check_standing.F.ok sc_check_standing (fun vs H Q E h => ?_) (fun cdv A outer s H vs Q E hr h => ?_)
  · obtain ⟨p, ds, m, i, rfl, _⟩ := h
    rfl
  · obtain ⟨p, ds, m, i, rfl, ⟨hm, hz, dx, k, b, hp, _⟩, hi, q⟩ := h
    refine ⟨_,
      (pss_one (ps_if (pt_not (pt_val (pe_call (ok_is_standing T) (hr.mono (by decide)) (by rfl) T.d_is_standing.g T.d_is_standing.F.kp T.d_is_standing.b .nil pass0 (pa_cons (pe_fld (pv 0) rfl) (pa_cons (pv 1) pa_nil)))))
      (pss_one ps_never)
      pss_nil))
      , ?_⟩
    refine ⟨_, rfl, p, C, dx, _, _, rfl, hp, c.cl, c.size, rfl, _, rfl, m.size, i, rfl, hi, true, rfl, iteF q⟩
theorem ok_led (T : Top K mg) {C : Addr} (c : WC K C) : FnOk P w K mg base CX0 4 T.d_led.f T.d_led.d ["world", "standing", "row"] (spLed K C) := by
  refine T.d_led.F.ok sc_led (fun vs H Q E h => ?_) (fun cdv A outer s H vs Q E hr h => ?_)
  · obtain ⟨p, ds, m, i, r, rfl, _⟩ := h
    rfl
  · obtain ⟨p, ds, m, i, r, rfl, hW, hd2, hi, hr', q⟩ := h
    have hu := hu_of hr
    have hW2 := hW
    obtain ⟨hm, hz, dx, k, b, hp, ⟨kv, a1, a2⟩, _⟩ := hW2
    refine ⟨_,
      (pss_cons (ps_expr (pe_call (ok_check_standing T c) (hr.mono (by decide)) (by rfl) T.d_check_standing.g T.d_check_standing.F.kp T.d_check_standing.b .nil pass0 (pa_cons (pv 0) (pa_cons (pv 1) pa_nil))))
      (pss_cons (ps_expr (pe_call (ok_check_row T) (hr.mono (by decide)) (by rfl) T.d_check_row.g T.d_check_row.F.kp T.d_check_row.b .nil pass0 (pa_cons (pe_fld (pv 0) rfl) (pa_cons (pv 2) pa_nil))))
      (pss_cons (ps_for PassesOwn.never rfl (pi_str (pv 2)) (pg_name (i := 3) sc_led.nd rfl (Or.inl rfl))
      (pss_one (ps_set (i := 1) sc_led.nd rfl (Or.inl rfl) (pe_ix ix_tup (pe_dget hu (pe_fld (pv 0) rfl) (pv 3) (fun _ _ => rfl)) (pv 1) (fun _ _ => rfl)))))
      (pss_one (ps_ret (pv 1))))))
      , ?_⟩
    refine ⟨_, rfl, _, rfl, p, ds, m, i, rfl, hW, hi, ?_⟩
    refine ⟨_, rfl, p, C, dx, _, _, rfl, hp, c.cl, c.deeds, rfl, _, rfl, ds, r, rfl, hd2, hr', ?_⟩
    refine ⟨_, rfl, _, rfl, for_row (r := r) (fun pre σ H' => ∃ v3, σ = [some (.ref p), some (.int (goM m i pre : Nat)), some (.str (rS r)), v3] ∧ H' = H ∧ goM m i pre < m.size) ⟨none, rfl, rfl, hi⟩ ?_ ?_⟩
    · rintro pre x post σ H' e ⟨v3, rfl, rfl, hlt⟩
      have hx : x.d ∈ ds := lets_d (hr' x (by rw [e]; simp))
      obtain ⟨t, b1, b2⟩ := a2 x hx
      refine ⟨_, rfl, p, C, dx, _, _, rfl, hp, c.cl, c.moves, rfl, _, rfl, k, .ref t, rfl, dgK (k := .inr (lS x)) a1 b1, _, rfl, t, _, _, _, rfl, rfl, SqT.of b2, atI_nat (natV_at (mvL_at hm hx hlt)), ?_⟩
      have eg : goM m i (pre ++ [x]) = mvD m (goM m i pre) x := by rw [goM_app]; rfl
      refine ⟨some (.str (lS x)), ?_, rfl, by rw [eg]; exact mvD_lt hm hx hlt⟩
      rw [eg]
      rfl
    · rintro σ H' ⟨v3, rfl, rfl, hlt⟩
      exact ⟨_, rfl, q⟩
end
end Rb
/-! Ways filled up to a world; places grown for denied rows; homes. -/
namespace Rb
set_option linter.all false
set_option maxRecDepth 100000
set_option maxHeartbeats 4000000
open PySem PySem.Spec PyProof.Rows L2
def AheadK (kvs : List (L2.Key × V)) (δ : Nat → Lt → Option Nat) (d : Fin 26) : Prop := ∀ q : Nat, valV kvs (.inl (q : Int)) = (δ q ⟨d, false⟩).map fun p : Nat => V.int p
theorem AheadK.put {kvs : List (L2.Key × V)} {δ : Nat → Lt → Option Nat} {d : Fin 26} (h : AheadK kvs δ d) (p q : Nat) : AheadK (putK kvs (.inl (p : Int)) (.int q)) (stepW δ (p, d, q)) d := by
  intro x
  rw [valV_put]
  unfold stepW put2
  by_cases e : x = p
  · subst e
    simp
  · rw [if_neg (fun z => e (by have := Sum.inl.inj z; omega)), if_neg (fun z => by cases z.2), if_neg (fun z => e z.1), h x]
theorem AheadK.skip {kvs : List (L2.Key × V)} {δ : Nat → Lt → Option Nat} {d d0 : Fin 26} (h : AheadK kvs δ d) (hne : d0 ≠ d) (p q : Nat) : AheadK kvs (stepW δ (p, d0, q)) d := by
  intro x
  unfold stepW put2
  rw [if_neg (fun z => by cases z.2), if_neg (fun z => hne (by have := z.2; cases this; rfl)), h x]
theorem BackK.put {kvs : List (L2.Key × V)} {δ : Nat → Lt → Option Nat} {d : Fin 26} (h : BackK kvs δ d) (p q : Nat) : BackK (putK kvs (.inl (q : Int)) (.int p)) (stepW δ (p, d, q)) d := by
  intro x
  rw [valV_put]
  unfold stepW put2
  by_cases e : x = q
  · subst e
    simp
  · rw [if_neg (fun z => e (by have := Sum.inl.inj z; omega)), if_neg (fun z => e z.1), if_neg (fun z => by cases z.2), h x]
theorem BackK.skip {kvs : List (L2.Key × V)} {δ : Nat → Lt → Option Nat} {d d0 : Fin 26} (h : BackK kvs δ d) (hne : d0 ≠ d) (p q : Nat) : BackK kvs (stepW δ (p, d0, q)) d := by
  intro x
  unfold stepW put2
  rw [if_neg (fun z => hne (by have := z.2; cases this; rfl)), if_neg (fun z => by cases z.2), h x]
theorem dec_low (d d' : Fin 26) : decide (V.str (lS ⟨d, false⟩) = V.str (lS ⟨d', false⟩)) = decide (d = d') := by
  by_cases h : d = d'
  · simp [h]
  · rw [decide_eq_false h]
    exact decide_eq_false fun z => h (by have := lS_inj (V.str.inj z); cases this; rfl)
section
variable {P : Program} {w : World} {K : PySem.W.Frag} {mg : Str → Option Value} {base : Heap}
def spFilled (K : PySem.W.Frag) : Sp := fun vs H Q _ => ∃ (ds : List (Fin 26)) (n : Nat) (a : Addr) (W : List Way), vs = [.str (dS ds), .int n, .ref a] ∧ WaysAt K H a W ∧ W.length ≤ 100000 ∧ Det W ∧ (∀ w ∈ W, w.1 < n ∧ w.2.2 < n) ∧ n ≤ 200000 ∧ ds.length ≤ 26 ∧
  ∀ p H', H p = none → Same H H' → MovesAt K H' p ds (fillW W n) → Q (.ref p) H'
theorem ok_filled (T : Top K mg) : FnOk P w K mg base CX0 2 T.d_filled.f T.d_filled.d ["deeds", "size", "ways"] (spFilled K) := by
  refine T.d_filled.F.ok sc_filled (fun vs H Q E h => ?_) (fun cdv A outer s H vs Q E hr h => ?_)
  · obtain ⟨ds, n, a, W, rfl, _⟩ := h
    rfl
  · obtain ⟨ds, n, a, W, rfl, ⟨ws, hws, hD⟩, hlen, hDet, hlt, hn, hds, q⟩ := h
    have hu := hu_of hr
    refine ⟨_,
      (pss_cons (ps_set (i := 3) sc_filled.nd rfl (Or.inl rfl) pe_dnewK)
      (pss_cons (ps_for PassesOwn.never rfl (pi_str (pv 0)) (pg_name (i := 4) sc_filled.nd rfl (Or.inl rfl))
      (pss_cons (ps_set (i := 5) sc_filled.nd rfl (Or.inl rfl) pe_dnewK)
      (pss_cons (ps_set (i := 6) sc_filled.nd rfl (Or.inl rfl) pe_dnewK)
      (pss_cons (ps_for PassesOwn.never rfl (pi_list (pv 2)) (pg_tup (by rfl) (pgs_cons (pg_name (i := 7) sc_filled.nd rfl (Or.inl rfl)) (pgs_cons (pg_name (i := 8) sc_filled.nd rfl (Or.inl rfl)) (pgs_cons (pg_name (i := 9) sc_filled.nd rfl (Or.inl rfl)) pgs_nil))))
      (pss_one (ps_if (pt_cmpR op_eq (pv 8) (pv 4) (nomark _))
      (pss_cons (ps_dput hu (pv 5) (pv 7) (pv 9) rfl)
      (pss_one (ps_dput hu (pv 6) (pv 9) (pv 7) rfl)))
      pss_nil)))
      (pss_cons (ps_set (i := 10) sc_filled.nd rfl (Or.inl rfl) (pe_lst pa_nil))
      (pss_cons (ps_for PassesOwn.never rfl (pi_range1 (by rfl) T.z_range (pa_cons (pv 1) pa_nil)) (pg_name (i := 7) sc_filled.nd rfl (Or.inl rfl))
      (pss_one (ps_if (pt_cmp (pc_din hu (pv 7) (pv 5)))
      (pss_one (ps_expr (pe_bm PySem.F.plainAttrs_list PySem.F.slot_list_append PySem.F.type_list_append mt_append (pv 10) (pa_cons (pe_dget hu (pv 5) (pv 7) (fun _ _ => rfl)) pa_nil))))
      (pss_one (ps_expr (pe_bm PySem.F.plainAttrs_list PySem.F.slot_list_append PySem.F.type_list_append mt_append (pv 10) (pa_cons (pe_call (ok_ring_end T) (hr.mono (by decide)) (by rfl) T.d_ring_end.g T.d_ring_end.F.kp T.d_ring_end.b .nil pass0 (pa_cons (pv 6) (pa_cons (pv 7) pa_nil))) pa_nil)))))))
      (pss_one (ps_dput hu (pv 3) (pv 4) (pe_callTy call_tuple_of (by rfl) T.z_tuple (by decide +kernel) (pa_cons (pv 10) pa_nil)) rfl))))))))
      (pss_one (ps_ret (pv 3)))))
      , ?_⟩
    intro M hM0
    have hwl : ws.length = W.length := by rw [dp_len hD, List.length_map]
    refine ⟨_, rfl, _, rfl, for_deeds (fun pre σ H' => ∃ v4 v5 v6 v7 v8 v9 v10 acc, σ = [some (.str (dS ds)), some (.int n), some (.ref a), some (.ref M), v4, v5, v6, v7, v8, v9, v10] ∧ Same H H' ∧ H' M = some (.dK acc) ∧ acc.length ≤ pre.length ∧
        ∀ d ∈ pre, ∃ t, valV acc (.inr (lS ⟨d, false⟩)) = some (.ref t) ∧ H' t = some (.tup (natV ((fillW W n).mv d))))
      ⟨none, none, none, none, none, none, none, [], rfl, same_new hM0, upd_same, Nat.zero_le _, by simp⟩ ?_ ?_⟩
    · rintro pre d post σ H' e ⟨v4, v5, v6, v7, v8, v9, v10, acc, rfl, s1, hacc, hl, hv⟩
      have hpre : pre.length < 26 := by
        have := congrArg List.length e
        simp at this
        omega
      intro A1 hA1
      intro B1 hB1
      have s2 : Same H' (upd (upd H' A1 (.dK [])) B1 (.dK [])) := (same_new hA1).trans (same_new hB1)
      have hA10 : (upd H' A1 (.dK [])) A1 = some (.dK []) := upd_same
      have hAB : A1 ≠ B1 := ne_of_none hA10 hB1
      have hB10 : H' B1 = none := (same_new hA1).free hB1
      refine ⟨_, rfl, a, rfl, ⟨_, SqL.of (s2 _ _ (s1 _ _ hws))⟩, for_dl (K := K) (xs := ws) (ds := W) hwl (fun pr σ H2 => ∃ v7 v8 v9 ka kb, σ = [some (.str (dS ds)), some (.int n), some (.ref a), some (.ref M), some (.str (lS ⟨d, false⟩)), some (.ref A1), some (.ref B1), v7, v8, v9, v10] ∧ Same H' H2 ∧ H2 A1 = some (.dK ka) ∧ H2 B1 = some (.dK kb) ∧ ka.length ≤ pr.length ∧ kb.length ≤ pr.length ∧
          AheadK ka (stepsD pr) d ∧ BackK kb (stepsD pr) d)
        ⟨v7, v8, v9, [], [], rfl, s2, by rw [upd_ne hAB]; exact hA10, upd_same, Nat.zero_le _, Nat.zero_le _, fun _ => rfl, fun _ => rfl⟩ ?_ ?_ ?_⟩
      · rintro pr σ H2 ⟨_, _, _, _, _, _, s3, _⟩
        exact SqL.of (s3 _ _ (s1 _ _ hws))
      · rintro pr w po x σ H2 e2 hx ⟨v7, v8, v9, ka, kb, rfl, s3, gA, gB, la, lb, hA, hB⟩
        obtain ⟨t, rfl, ht⟩ := way_at (dpAll_same (s1.trans s3) hD) e2 hx
        have hpr : pr.length < 100000 := by
          have := congrArg List.length e2
          simp at this
          omega
        obtain ⟨p0, d0, q0⟩ := w
        simp only at ht
        refine ⟨t, _, rfl, ht, rfl, _, _, rfl, _, _, rfl, _, _, rfl, rfl, ?_⟩
        refine ⟨_, rfl, _, rfl, rfl, _, rfl, ?_⟩
        show if decide (V.str (lS ⟨d0, false⟩) = V.str (lS ⟨d, false⟩)) = true then _ else _
        rw [dec_low]
        by_cases c : d0 = d
        · subst c
          rw [decide_eq_true rfl]
          refine iteT ?_
          refine ⟨_, rfl, _, rfl, _, rfl, A1, _, rfl, DPut.k (k := .inl (p0 : Int)) gA (sz1M (by omega)), ?_⟩
          refine ⟨_, rfl, _, rfl, _, rfl, B1, _, rfl, DPut.k (k := .inl (q0 : Int)) (by rw [upd_ne hAB.symm]; exact gB) (sz1M (by omega)), ?_⟩
          have l1 := length_putK ka (.inl (p0 : Int)) (V.int q0)
          have l2 := length_putK kb (.inl (q0 : Int)) (V.int p0)
          refine ⟨_, _, _, _, _, rfl, same_mut (same_mut s3 hA1) hB10, by rw [upd_ne hAB]; exact upd_same, upd_same, by rw [List.length_append]; simp only [List.length_cons, List.length_nil]; omega, by rw [List.length_append]; simp only [List.length_cons, List.length_nil]; omega, ?_, ?_⟩
          · rw [stepsD_snoc]
            exact hA.put p0 q0
          · rw [stepsD_snoc]
            exact hB.put p0 q0
        · rw [decide_eq_false c]
          refine iteF ?_
          refine ⟨_, _, _, ka, kb, rfl, s3, gA, gB, by rw [List.length_append]; omega, by rw [List.length_append]; omega, ?_, ?_⟩
          · rw [stepsD_snoc]
            exact hA.skip c p0 q0
          · rw [stepsD_snoc]
            exact hB.skip c p0 q0
      · rintro σ H2 ⟨v7, v8, v9, ka, kb, rfl, s3, gA, gB, la, lb, hA, hB⟩
        refine ⟨(by show 0 ≤ sizeLine; decide), fun R1 hR1 => ?_⟩
        have hRn : H' R1 = none := s3.free hR1
        have hAR : A1 ≠ R1 := ne_of_none gA hR1
        have hBR : B1 ≠ R1 := ne_of_none gB hR1
        refine ⟨_, rfl, n, rfl, by omega, by omega, ?_⟩
        refine for_range (lo := 0) (n := n) (fun i σ H3 => ∃ v7, σ = [some (.str (dS ds)), some (.int n), some (.ref a), some (.ref M), some (.str (lS ⟨d, false⟩)), some (.ref A1), some (.ref B1), v7, v8, v9, some (.ref R1)] ∧ Same H' H3 ∧ H3 A1 = some (.dK ka) ∧ H3 B1 = some (.dK kb) ∧ H3 R1 = some (.lst (natV ((List.range i).map (fillD (stepsD W) d n)))))
          ⟨v7, rfl, s3.trans (same_new hR1), by rw [upd_ne hAR]; exact gA, by rw [upd_ne hBR]; exact gB, upd_same⟩ ?_ ?_
        · rintro i σ H3 hi ⟨v7, rfl, s4, kA, kB, kR⟩
          have ek : (0 + (i : Int)) = (i : Nat) := by omega
          rw [ek]
          have next : ∀ v : Nat, fillD (stepsD W) d n i = v → (upd H3 R1 (.lst (natV ((List.range i).map (fillD (stepsD W) d n)) ++ [.int v]))) R1 = some (.lst (natV ((List.range (i + 1)).map (fillD (stepsD W) d n)))) := fun v hv => by
            rw [upd_same, List.range_succ, List.map_append]
            unfold natV
            rw [List.map_append]
            simp [hv]
          have ln : (natV ((List.range i).map (fillD (stepsD W) d n))).length < sizeLine := sz1M (by rw [natV_len, List.length_map, List.length_range]; omega)
          refine ⟨_, rfl, _, rfl, A1, _, rfl, DGet.k (k := .inl (i : Int)) kA, ?_⟩
          rw [hA i]
          cases hg : stepsD W i ⟨d, false⟩ with
          | some g =>
            refine ⟨_, rfl, iteT ?_⟩
            refine ⟨_, rfl, .inl ⟨rfl, _, SqL.of kR⟩, _, rfl, _, rfl, A1, .int g, rfl, dgK (k := .inl (i : Int)) kA (by rw [hA i, hg]; rfl), R1, _, _, rfl, rfl, kR, ln, ?_⟩
            exact ⟨_, rfl, same_mut s4 hRn, by rw [upd_ne hAR]; exact kA, by rw [upd_ne hBR]; exact kB, next g (by unfold fillD; rw [hg])⟩
          | none =>
            refine ⟨_, rfl, iteF ?_⟩
            obtain ⟨k, _, hb⟩ := back_ex hDet hlt (d := d) hi hg
            refine ⟨_, rfl, .inl ⟨rfl, _, SqL.of kR⟩, _, rfl, _, rfl, B1, kb, stepsD W, d, k, i, _, rfl, kB, hB, hb, R1, _, _, rfl, rfl, kR, ln, ?_⟩
            exact ⟨_, rfl, same_mut s4 hRn, by rw [upd_ne hAR]; exact kA, by rw [upd_ne hBR]; exact kB, next _ (by unfold fillD; rw [hg])⟩
        · rintro σ H3 ⟨v7, rfl, s4, kA, kB, kR⟩
          refine ⟨_, rfl, R1, _, rfl, .inl ⟨SqL.of kR, fun t ht => ?_⟩⟩
          have s5 : Same H' (upd H3 t (.tup (natV ((List.range n).map (fillD (stepsD W) d n))))) := s4.trans (same_new ht)
          refine ⟨_, rfl, _, rfl, M, _, rfl, DPut.k (k := .inr (lS ⟨d, false⟩)) (s5 _ _ hacc) (sz1M (by omega)), ?_⟩
          have l1 := length_putK acc (.inr (lS ⟨d, false⟩)) (V.ref t)
          have htM : t ≠ M := (ne_of_none (s4 _ _ hacc) ht).symm
          refine ⟨_, _, _, _, _, _, _, _, rfl, same_mut (s1.trans s5) hM0, upd_same, by rw [List.length_append]; simp only [List.length_cons, List.length_nil]; omega, ?_⟩
          intro d' hd'
          rw [valV_put]
          by_cases ed : d' = d
          · subst ed
            exact ⟨t, by rw [if_pos rfl], by rw [upd_ne htM, upd_same]; rfl⟩
          · rw [if_neg (fun z => ed (by have := lS_inj (Sum.inr.inj z); cases this; rfl))]
            have hp : d' ∈ pre := by
              rcases List.mem_append.mp hd' with z | z
              · exact z
              · exact absurd (List.mem_singleton.mp z) ed
            obtain ⟨t', g1, g2⟩ := hv d' hp
            refine ⟨t', g1, ?_⟩
            have htM' : t' ≠ M := by
              rintro rfl
              rw [hacc] at g2
              cases g2
            rw [upd_ne htM']
            exact s5 _ _ g2
    · rintro σ H' ⟨v4, v5, v6, v7, v8, v9, v10, acc, rfl, s1, hacc, hl, hv⟩
      exact ⟨_, rfl, q M H' hM0 s1 ⟨acc, hacc, hv⟩⟩
end
end Rb
/-! Homes. -/
namespace Rb
set_option linter.all false
set_option maxRecDepth 100000
set_option maxHeartbeats 4000000
open PySem PySem.Spec PyProof.Rows L2
/-- what grows -/
def GrownAt (K : PySem.W.Frag) (C : Addr) (H : Hp) (p l gd : Addr) (g : Gw) : Prop := ∃ (dx : Addr) (vs : List V) (kvs : List (List L2.Key × V)), H p = some (.ins C dx [("size", .int (g.n : Nat)), ("ways", .ref l), ("goals", .ref gd)]) ∧
  H l = some (.lst vs) ∧ DpAll K H vs (g.W.map encW) ∧ H gd = some (.dT kvs) ∧ Fk kvs (stepsD g.W) ∧ kvs.length ≤ 2 * g.W.length
theorem put2_swap (δ : Nat → Lt → Option Nat) (p q : Nat) (x : Lt) : put2 (put2 δ p x q) q x.inv p = put2 (put2 δ q x.inv p) p x q := by
  funext a y
  unfold put2
  by_cases h1 : a = q ∧ y = x.inv
  · by_cases h2 : a = p ∧ y = x
    · exact absurd (h1.2.symm.trans h2.2) (Lt.inv_ne _)
    · rw [if_pos h1, if_neg h2, if_pos h1]
  · by_cases h2 : a = p ∧ y = x
    · rw [if_neg h1, if_pos h2, if_pos h2]
    · rw [if_neg h1, if_neg h2, if_neg h2, if_neg h1]
theorem steps_fwd1 (δ : Nat → Lt → Option Nat) (p q : Nat) (x : Lt) : stepW δ (fwd1 (p, x, q)) = put2 (put2 δ p x q) q x.inv p := by
  obtain ⟨d, u⟩ := x
  cases u with
  | false => rfl
  | true =>
    rw [put2_swap]
    rfl
theorem low_testN (x : Lt) : (!decide (V.str (lS x) = V.str (Txt.lower (lS x)))) = x.u := by
  rw [low_test, Bool.not_not]
section
variable {P : Program} {w : World} {K : PySem.W.Frag} {mg : Str → Option Value} {base : Heap}
def spGrownInit (K : PySem.W.Frag) (C CW : Addr) : Sp := fun vs H Q _ => ∃ (p dx a : Addr) (ds : List (Fin 26)) (w : WebD), vs = [.ref p, .ref a] ∧ H p = some (.ins C dx []) ∧ WebAt K CW H a ds w ∧
  ∀ l gd H', H l = none → H gd = none → l ≠ p → GrownAt K C H' p l gd ⟨w.size, w.ways⟩ → Upto [p] H H' → Q .non H'
theorem ok_Grown___init__ (T : Top K mg) : FnOk P w K mg base CX0 3 T.m_Grown___init__.f T.m_Grown___init__.d ["self", "web"] (spGrownInit K T.C_Grown T.C_Web) := by
  refine T.m_Grown___init__.F.ok sc_Grown___init__ (fun vs H Q E h => ?_) (fun cdv A outer s H vs Q E hr h => ?_)
  · obtain ⟨p, dx, a, ds, w, rfl, _⟩ := h
    rfl
  · obtain ⟨p, dx, a, ds, w, rfl, hp, ⟨ok, dw, t, l0, xs, ads, m, ha, ht, hD, hl, _⟩, q⟩ := h
    have hu := hu_of hr
    refine ⟨_,
      (pss_cons (ps_fld (pv 0) (pe_fld (pv 1) rfl) rfl)
      (pss_cons (ps_fld (pv 0) (pe_callTy call_list_of (by rfl) T.z_list (by decide +kernel) (pa_cons (pe_fld (pv 1) rfl) pa_nil)) rfl)
      (pss_one (ps_fld (pv 0) (pe_call (ok_steps_of T) (hr.mono (by decide)) (by rfl) T.d_steps_of.g T.d_steps_of.F.kp T.d_steps_of.b .nil pass0 (pa_cons (pe_fld (pv 1) rfl) pa_nil)) rfl))))
      , ?_⟩
    have pa : p ≠ a := by
      rintro rfl
      rw [hp] at ha
      have := congrArg (fun o => match o with | some (HO.ins _ _ fs) => fs.length | _ => 0) ha
      simp at this
    have pt : p ≠ t := ne_of hp ht (by intro z; cases z)
    refine ⟨_, rfl, a, T.C_Web, dw, _, _, rfl, ha, T.k_Web.cl, T.n_Web_kept_size, rfl, _, rfl, p, T.C_Grown, dx, _, rfl, hp, T.k_Grown.cl, T.n_Grown_size, by show 0 < 1000; decide, ?_⟩
    refine ⟨_, rfl, a, T.C_Web, dw, _, _, rfl, by rw [upd_ne pa.symm]; exact ha, T.k_Web.cl, T.n_Web_kept_ways, rfl, t, _, rfl, .inr (SqT.of (by rw [upd_ne pt.symm]; exact ht)), fun l hl0 => ?_⟩
    have hlp : l ≠ p := by rintro rfl; rw [upd_same] at hl0; cases hl0
    have hln : H l = none := by rwa [upd_ne hlp] at hl0
    refine ⟨_, rfl, p, T.C_Grown, dx, _, rfl, by rw [upd_ne hlp.symm]; exact upd_same, T.k_Grown.cl, T.n_Grown_ways, by show 1 < 1000; decide, ?_⟩
    generalize ho : HO.ins T.C_Grown dx (putF "ways" _ _) = o2
    generalize hH : upd _ p o2 = H2
    have u2 : Upto [p] H H2 := by
      subst hH
      exact upto_in (upto_new (upto_in (Upto.refl _ _) (by simp)) hln) (by simp)
    have hp2 : H2 p = some o2 := by subst hH; exact upd_same
    have hl2 : H2 l = some (.lst xs) := by subst hH; rw [upd_ne hlp, upd_same]
    have np : ∀ {b}, b ≠ p → b ∉ [p] := fun h => by simpa using h
    have ha2 := u2 _ _ ha (np pa.symm)
    have ht2 := u2 _ _ ht (np pt.symm)
    have k2 : KeepT H H2 := keep_upto u2 (fun b hb => by rw [List.mem_singleton.mp hb, hp]; exact True.intro)
    have hD2 := dpAll_keep k2 hD (flat_ways _)
    subst ho
    refine ⟨_, rfl, a, T.C_Web, dw, _, _, rfl, ha2, T.k_Web.cl, T.n_Web_kept_ways, rfl, t, w.ways, rfl, ⟨xs, .inr ht2, hD2⟩, ok.few, fun gd kvs H3 hg0 s3 hg hF hkl => ?_⟩
    have hp3 := s3 _ _ hp2
    refine ⟨_, rfl, p, T.C_Grown, dx, _, rfl, hp3, T.k_Grown.cl, T.n_Grown_goals, by show 2 < 1000; decide, ?_⟩
    have hgp : gd ≠ p := by rintro rfl; rw [hp2] at hg0; cases hg0
    have hgn : H gd = none := by
      cases e : H gd with
      | none => rfl
      | some u => have := u2 _ _ e (np hgp); rw [hg0] at this; cases this
    have k3 : KeepT H3 (upd H3 p (.ins T.C_Grown dx [("size", .int (w.size : Nat)), ("ways", .ref l), ("goals", .ref gd)])) := KeepT.put (.inr (by rw [hp3]; exact True.intro))
    exact q l gd _ hln hgn hlp ⟨dx, xs, kvs, upd_same, by rw [upd_ne hlp]; exact s3 _ _ hl2, dpAll_keep ((KeepT.of s3).trans k3) hD2 (flat_ways _), by rw [upd_ne hgp]; exact hg, hF, hkl⟩ (upto_in (u2.trans (Upto.of s3)) (by simp))
def spGo (K : PySem.W.Frag) (C : Addr) : Sp := fun vs H Q _ => ∃ (p l gd : Addr) (g : Gw) (i : Nat) (x : Lt), vs = [.ref p, .int i, .str (lS x)] ∧ GrownAt K C H p l gd g ∧ g.W.length ≤ 200000 ∧
  ∀ H', GrownAt K C H' p l gd (growS g i x).1 → Upto [p, l, gd] H H' → Q (.int (growS g i x).2) H'
theorem ok_Grown_go (T : Top K mg) : FnOk P w K mg base CX0 2 T.m_Grown_go.f T.m_Grown_go.d ["self", "place", "letter"] (spGo K T.C_Grown) := by
  refine T.m_Grown_go.F.ok sc_Grown_go (fun vs H Q E h => ?_) (fun cdv A outer s H vs Q E hr h => ?_)
  · obtain ⟨p, l, gd, g, i, x, rfl, _⟩ := h
    rfl
  · obtain ⟨p, l, gd, g, i, x, rfl, ⟨dx, vs, kvs, hp, hl, hD, hg, hF, hk⟩, hlen, q⟩ := h
    have hu := hu_of hr
    refine ⟨_,
      (C8.pss_cut (ps_if (pt_cmp (pc_dnotin hu (pe_tup (pa_cons (pv 1) (pa_cons (pv 2) pa_nil))) (pe_fld (pv 0) rfl)))
      (pss_cons (ps_set (i := 3) sc_Grown_go.nd rfl (Or.inl rfl) (pe_fld (pv 0) rfl))
      (pss_cons (ps_fldaug (pv 0) pe_int in_add)
      (pss_cons (ps_set (i := 4) sc_Grown_go.nd rfl (Or.inl rfl) (pe_tup (pa_cons (pv 1) (pa_cons (pv 2) (pa_cons (pv 3) pa_nil)))))
      (C8.pss_cut (ps_if (pt_cmpR op_ne (pv 2) (pe_lower (pv 2)) (nomark _))
      (pss_one (ps_set (i := 4) sc_Grown_go.nd rfl (Or.inl rfl) (pe_tup (pa_cons (pv 3) (pa_cons (pe_call (ok_undoing_of T) (hr.mono (by decide)) (by rfl) T.d_undoing_of.g T.d_undoing_of.F.kp T.d_undoing_of.b .nil pass0 (pa_cons (pv 2) pa_nil)) (pa_cons (pv 1) pa_nil))))))
      pss_nil)
      (pss_cons (ps_expr (pe_bm PySem.F.plainAttrs_list PySem.F.slot_list_append PySem.F.type_list_append mt_append (pe_fld (pv 0) rfl) (pa_cons (pv 4) pa_nil)))
      (pss_cons (ps_dput hu (pe_fld (pv 0) rfl) (pe_tup (pa_cons (pv 1) (pa_cons (pv 2) pa_nil))) (pv 3) rfl)
      (pss_one (ps_dput hu (pe_fld (pv 0) rfl) (pe_tup (pa_cons (pv 3) (pa_cons (pe_call (ok_undoing_of T) (hr.mono (by decide)) (by rfl) T.d_undoing_of.g T.d_undoing_of.F.kp T.d_undoing_of.b .nil pass0 (pa_cons (pv 2) pa_nil)) pa_nil))) (pv 1) rfl))))))))
      pss_nil)
      (pss_one (ps_ret (pe_dget hu (pe_fld (pv 0) rfl) (pe_tup (pa_cons (pv 1) (pa_cons (pv 2) pa_nil))) (fun _ _ => rfl)))))
      , ?_⟩
    have h2s : (2 : Nat) ≤ sizeLine := by decide
    have h3s : (3 : Nat) ≤ sizeLine := by decide
    have hvl : vs.length = g.W.length := by rw [dp_len hD, List.length_map]
    refine ⟨fun σ H' => ∃ v3 v4 kvs', σ = [some (.ref p), some (.int i), some (.str (lS x)), v3, v4] ∧ GrownAt K T.C_Grown H' p l gd (growS g i x).1 ∧ Upto [p, l, gd] H H' ∧ H' gd = some (.dT kvs') ∧ valV kvs' (keyL i x) = some (.int ((growS g i x).2 : Nat)), ?_, ?_⟩
    · refine ⟨_, rfl, _, rfl, h2s, fun k1 hk1 => ?_⟩
      have s1 : Same H (upd H k1 (.tup [.int i, .str (lS x)])) := same_new hk1
      refine ⟨_, rfl, p, T.C_Grown, dx, _, _, rfl, s1 _ _ hp, T.k_Grown.cl, T.n_Grown_goals, rfl, gd, _, rfl, DGet.t (k := keyL i x) (s1 _ _ hg) upd_same, ?_⟩
      rw [hF i x]
      cases e : stepsD g.W i x with
      | some r =>
        refine ⟨_, rfl, iteF ?_⟩
        have eg : growS g i x = (g, r) := by unfold growS; rw [e]
        rw [eg]
        exact ⟨_, _, kvs, rfl, ⟨dx, vs, kvs, s1 _ _ hp, s1 _ _ hl, dpAll_same s1 hD, s1 _ _ hg, hF, hk⟩, Upto.of s1, s1 _ _ hg, by rw [hF i x, e]; rfl⟩
      | none =>
        refine ⟨_, rfl, iteT ?_⟩
        have eg : growS g i x = (⟨g.n + 1, g.W ++ [fwd1 (i, x, g.n)]⟩, g.n) := by unfold growS; rw [e]
        rw [eg]
        have hp1 := s1 _ _ hp
        refine ⟨_, rfl, p, T.C_Grown, dx, _, _, rfl, hp1, T.k_Grown.cl, T.n_Grown_size, rfl, ?_⟩
        refine ⟨_, rfl, p, T.C_Grown, dx, _, _, rfl, hp1, T.k_Grown.cl, T.n_Grown_size, rfl, _, _, rfl, rfl, dx, _, hp1, by show 3 < 1000; decide, ?_⟩
        have pl : p ≠ l := ne_of hp hl (by intro z; cases z)
        have pg : p ≠ gd := ne_of hp hg (by intro z; cases z)
        have lg : l ≠ gd := ne_of hl hg (by intro z; cases z)
        generalize hn : g.n = n at *
        have ep : putF "size" (V.int ((n : Nat) + 1 : Int)) [("size", V.int (n : Nat)), ("ways", V.ref l), ("goals", V.ref gd)] = ([("size", V.int ((n + 1 : Nat) : Int)), ("ways", V.ref l), ("goals", V.ref gd)] : List (Str × V)) := rfl
        rw [ep]
        have u2 : Upto [p, l, gd] H (upd (upd H k1 (.tup [.int i, .str (lS x)])) p (.ins T.C_Grown dx [("size", .int ((n + 1 : Nat) : Int)), ("ways", .ref l), ("goals", .ref gd)])) := upto_in (Upto.of s1) (by simp)
        have hp2 : (upd (upd H k1 (.tup [.int i, .str (lS x)])) p (.ins T.C_Grown dx [("size", .int ((n + 1 : Nat) : Int)), ("ways", .ref l), ("goals", .ref gd)])) p = some (.ins T.C_Grown dx [("size", .int ((n + 1 : Nat) : Int)), ("ways", .ref l), ("goals", .ref gd)]) := upd_same
        have hl2 : (upd (upd H k1 (.tup [.int i, .str (lS x)])) p (.ins T.C_Grown dx [("size", .int ((n + 1 : Nat) : Int)), ("ways", .ref l), ("goals", .ref gd)])) l = some (.lst vs) := by rw [upd_ne pl.symm]; exact s1 _ _ hl
        have hg2 : (upd (upd H k1 (.tup [.int i, .str (lS x)])) p (.ins T.C_Grown dx [("size", .int ((n + 1 : Nat) : Int)), ("ways", .ref l), ("goals", .ref gd)])) gd = some (.dT kvs) := by rw [upd_ne pg.symm]; exact s1 _ _ hg
        generalize upd (upd H k1 (.tup [.int i, .str (lS x)])) p _ = H2 at *
        refine ⟨_, rfl, _, rfl, _, rfl, h3s, fun k2 hk2 => ?_⟩
        refine ⟨fun σ H' => ∃ wk, σ = [some (.ref p), some (.int i), some (.str (lS x)), some (.int (n : Nat)), some (.ref wk)] ∧ Same H2 H' ∧ H' wk = some (.tup [.int (fwd1 (i, x, n)).1, .str (lS ⟨(fwd1 (i, x, n)).2.1, false⟩), .int (fwd1 (i, x, n)).2.2]), ?_, ?_⟩
        · refine ⟨_, rfl, _, rfl, ⟨_, rfl⟩, _, rfl, rfl, (by show 1 ≤ _; decide), rfl, _, rfl, ?_⟩
          show if (!decide (V.str (lS x) = V.str (Txt.lower (lS x)))) = true then _ else _
          rw [low_testN]
          obtain ⟨xd, xu⟩ := x
          cases xu with
          | false =>
            refine iteF ?_
            exact ⟨k2, rfl, same_new hk2, upd_same⟩
          | true =>
            refine iteT ?_
            refine ⟨_, rfl, _, rfl, [⟨xd, true⟩], rfl, by simp, _, rfl, h3s, fun k3 hk3 => ?_⟩
            exact ⟨k3, rfl, (same_new hk2).trans (same_new hk3), upd_same⟩
        · rintro σ H3 ⟨wk, rfl, s3, hwk⟩
          have hp3 := s3 _ _ hp2
          have hl3 := s3 _ _ hl2
          have hg3 := s3 _ _ hg2
          have wp : wk ≠ p := (ne_of hp3 hwk (by intro z; cases z)).symm
          have wl : wk ≠ l := (ne_of hl3 hwk (by intro z; cases z)).symm
          have wg : wk ≠ gd := (ne_of hg3 hwk (by intro z; cases z)).symm
          refine ⟨_, rfl, p, T.C_Grown, dx, _, _, rfl, hp3, T.k_Grown.cl, T.n_Grown_ways, rfl, .inl ⟨rfl, _, SqL.of hl3⟩, _, rfl, l, _, _, rfl, rfl, hl3, sz1M (by omega), ?_⟩
          have u4 : Upto [p, l, gd] H (upd H3 l (.lst (vs ++ [.ref wk]))) := upto_in (u2.trans (Upto.of s3)) (by simp)
          have hp4 : (upd H3 l (.lst (vs ++ [.ref wk]))) p = _ := (upd_ne pl).trans hp3
          have hl4 : (upd H3 l (.lst (vs ++ [.ref wk]))) l = some (.lst (vs ++ [.ref wk])) := upd_same
          have hg4 : (upd H3 l (.lst (vs ++ [.ref wk]))) gd = _ := (upd_ne lg.symm).trans hg3
          have hw4 : (upd H3 l (.lst (vs ++ [.ref wk]))) wk = _ := (upd_ne wl).trans hwk
          generalize upd H3 l (.lst (vs ++ [.ref wk])) = H4 at *
          refine ⟨_, rfl, _, rfl, p, T.C_Grown, dx, _, _, rfl, hp4, T.k_Grown.cl, T.n_Grown_goals, rfl, _, rfl, _, rfl, h2s, fun k4 hk4 => ?_⟩
          have hg5 := same_new hk4 _ _ hg4 (o := .tup [.int i, .str (lS x)])
          refine ⟨gd, _, rfl, DPut.t (k := keyL i x) hg5 upd_same (sz1M (by omega)), ?_⟩
          have l1 := length_putK kvs (keyL i x) (V.int n)
          have hp5 : (upd (upd H4 k4 (.tup [.int i, .str (lS x)])) gd (.dT (putK kvs (keyL i x) (.int n)))) p = _ := (upd_ne pg).trans (same_new hk4 _ _ hp4)
          have hl5 : (upd (upd H4 k4 (.tup [.int i, .str (lS x)])) gd (.dT (putK kvs (keyL i x) (.int n)))) l = _ := (upd_ne lg).trans (same_new hk4 _ _ hl4)
          have hw5 : (upd (upd H4 k4 (.tup [.int i, .str (lS x)])) gd (.dT (putK kvs (keyL i x) (.int n)))) wk = _ := (upd_ne wg).trans (same_new hk4 _ _ hw4)
          have hg6 : (upd (upd H4 k4 (.tup [.int i, .str (lS x)])) gd (.dT (putK kvs (keyL i x) (.int n)))) gd = some (.dT (putK kvs (keyL i x) (.int n))) := upd_same
          have u5 : Upto [p, l, gd] H (upd (upd H4 k4 (.tup [.int i, .str (lS x)])) gd (.dT (putK kvs (keyL i x) (.int n)))) := upto_in (u4.trans (Upto.of (same_new hk4))) (by simp)
          generalize upd (upd H4 k4 (.tup [.int i, .str (lS x)])) gd (.dT (putK kvs (keyL i x) (.int n))) = H5 at *
          refine ⟨_, rfl, _, rfl, p, T.C_Grown, dx, _, _, rfl, hp5, T.k_Grown.cl, T.n_Grown_goals, rfl, _, rfl, _, rfl, [x], rfl, by simp, h2s, fun k5 hk5 => ?_⟩
          have hg7 := same_new hk5 _ _ hg6 (o := .tup [.int n, .str (lS x.inv)])
          refine ⟨gd, _, rfl, DPut.t (k := keyL n x.inv) hg7 upd_same (sz1M (by omega)), ?_⟩
          have l2 := length_putK (putK kvs (keyL i x) (.int n)) (keyL n x.inv) (V.int i)
          have hF2 : Fk (putK (putK kvs (keyL i x) (.int n)) (keyL n x.inv) (.int i)) (stepsD (g.W ++ [fwd1 (i, x, n)])) := by
            rw [stepsD_snoc, steps_fwd1]
            exact (hF.put i x n).put n x.inv i
          have u6 : Upto [p, l, gd] H (upd (upd H5 k5 (.tup [.int n, .str (lS x.inv)])) gd (.dT (putK (putK kvs (keyL i x) (.int n)) (keyL n x.inv) (.int i)))) := upto_in (u5.trans (Upto.of (same_new hk5))) (by simp)
          have kk : KeepT H (upd (upd H5 k5 (.tup [.int n, .str (lS x.inv)])) gd (.dT (putK (putK kvs (keyL i x) (.int n)) (keyL n x.inv) (.int i)))) := keep_upto u6 (fun b hb => by
            simp at hb
            rcases hb with z | z | z <;> rw [z]
            · rw [hp]; exact True.intro
            · rw [hl]; exact True.intro
            · rw [hg]; exact True.intro)
          refine ⟨_, _, _, rfl, ⟨dx, vs ++ [.ref wk], _, (upd_ne pg).trans (same_new hk5 _ _ hp5), (upd_ne lg).trans (same_new hk5 _ _ hl5), ?_, upd_same, hF2, ?_⟩, u6, upd_same, ?_⟩
          · rw [List.map_append]
            exact dp_snoc (dp_of3 (SqT.of ((upd_ne wg).trans (same_new hk5 _ _ hw5)))) (dpAll_keep kk hD (flat_ways _))
          · show _ ≤ 2 * (g.W ++ [fwd1 (i, x, n)]).length
            rw [List.length_append]
            simp only [List.length_cons, List.length_nil]
            omega
          · rw [hF2 i x, stepsD_snoc, steps_fwd1]
            unfold put2
            rw [if_neg (fun z => Lt.inv_ne _ z.2.symm), if_pos ⟨rfl, rfl⟩]
            rfl
    · rintro σ H' ⟨v3, v4, kvs', rfl, hG, u1, hg', hv⟩
      obtain ⟨dx', vs', kv2, a1, a2, a3, a4, a5, a6⟩ := hG
      rw [hg'] at a4
      cases a4
      refine ⟨_, rfl, p, T.C_Grown, dx', _, _, rfl, a1, T.k_Grown.cl, T.n_Grown_goals, rfl, _, rfl, _, rfl, h2s, fun k2 hk2 => ?_⟩
      have s2 : Same H' (upd H' k2 (.tup [.int i, .str (lS x)])) := same_new hk2
      have dg := DGet.t (k := keyL i x) (s2 _ _ hg') upd_same
      rw [hv] at dg
      exact ⟨gd, _, rfl, dg, q _ ⟨dx', vs', kvs', s2 _ _ a1, s2 _ _ a2, dpAll_same s2 a3, s2 _ _ hg', a5, a6⟩ (u1.trans (Upto.of s2))⟩
def spGLead (K : PySem.W.Frag) (C : Addr) : Sp := fun vs H Q _ => ∃ (p l gd : Addr) (g : Gw) (r : Row), vs = [.ref p, .str (rS r)] ∧ GrownAt K C H p l gd g ∧ GwOk g ∧ 0 < g.n ∧ g.W.length + r.length ≤ 200000 ∧
  ∀ H', GrownAt K C H' p l gd (growR g 0 r).1 → Upto [p, l, gd] H H' → Q (.int (growR g 0 r).2) H'
theorem ok_Grown_lead (T : Top K mg) : FnOk P w K mg base CX0 3 T.m_Grown_lead.f T.m_Grown_lead.d ["self", "row"] (spGLead K T.C_Grown) := by
  refine T.m_Grown_lead.F.ok sc_Grown_lead (fun vs H Q E h => ?_) (fun cdv A outer s H vs Q E hr h => ?_)
  · obtain ⟨p, l, gd, g, r, rfl, _⟩ := h
    rfl
  · obtain ⟨p, l, gd, g, r, rfl, hG, hok, h0, hlen, q⟩ := h
    have hu := hu_of hr
    refine ⟨_,
      (pss_cons (ps_set (i := 2) sc_Grown_lead.nd rfl (Or.inl rfl) pe_int)
      (pss_cons (ps_for PassesOwn.never rfl (pi_str (pv 1)) (pg_name (i := 3) sc_Grown_lead.nd rfl (Or.inl rfl))
      (pss_one (ps_set (i := 2) sc_Grown_lead.nd rfl (Or.inl rfl) (pe_meth (pv 0) T.k_Grown.cl T.m_Grown_go.m (ok_Grown_go T) (hr.mono (by decide)) T.m_Grown_go.b .nil pass0 (pa_cons (pv 2) (pa_cons (pv 3) pa_nil))))))
      (pss_one (ps_ret (pv 2)))))
      , ?_⟩
    refine ⟨_, rfl, _, rfl, for_row (r := r) (fun pre σ H' => ∃ v3, σ = [some (.ref p), some (.str (rS r)), some (.int ((growR g 0 pre).2 : Nat)), v3] ∧ GrownAt K T.C_Grown H' p l gd (growR g 0 pre).1 ∧ Upto [p, l, gd] H H') ⟨none, rfl, hG, Upto.refl _ _⟩ ?_ ?_⟩
    · rintro pre x post σ H' e ⟨v3, rfl, hG', u1⟩
      obtain ⟨dx, vs, kvs, hp, hrest⟩ := id hG'
      have hl : pre.length ≤ r.length := by rw [e, List.length_append]; omega
      have hb := (growR_ok (r := pre) hok h0).2.2.2.2
      refine ⟨_, rfl, p, dx, _, rfl, hp, rfl, _, rfl, _, rfl, p, l, gd, (growR g 0 pre).1, (growR g 0 pre).2, x, rfl, hG', by omega, fun H2 hG2 u2 => ?_⟩
      rw [← growR_snoc] at hG2 ⊢
      exact ⟨_, rfl, hG2, u1.trans u2⟩
    · rintro σ H' ⟨v3, rfl, hG', u1⟩
      exact ⟨_, rfl, q H' hG' u1⟩
theorem GrownAt.same {K : PySem.W.Frag} {C : Addr} {H H' : Hp} {p l gd : Addr} {g : Gw} (h : GrownAt K C H p l gd g) (e : Same H H') : GrownAt K C H' p l gd g := by
  obtain ⟨dx, vs, kvs, a1, a2, a3, a4, a5, a6⟩ := h
  exact ⟨dx, vs, kvs, e _ _ a1, e _ _ a2, dpAll_same e a3, e _ _ a4, a5, a6⟩
/-- what is asked of denied rows -/
def DenOk (ds : List (Fin 26)) (den : List Row) : Prop := den.length ≤ 6 ∧ ∀ r ∈ den, OverD ds r ∧ r.length ≤ 60
def homeG (w : WebD) (den : List Row) : Gw := growA ⟨w.size, w.ways⟩ den
def homeW (w : WebD) (den : List Row) : Wd := fillW (homeG w den).W (homeG w den).n
def spCheckHome (K : PySem.W.Frag) : Sp := fun vs H Q _ => ∃ ds a b rs den, vs = [.str (dS ds), .ref a, .ref b] ∧ RowsAt K H a rs ∧ RowsAt K H b den ∧ Asc ds ∧ MakesOk ds rs 6 12 ∧ DenOk ds den ∧ ∀ H', Same H H' → Q .non H'
def spHome (K : PySem.W.Frag) (C : Addr) : Sp := fun vs H Q _ => ∃ ds a b rs den, vs = [.str (dS ds), .ref a, .ref b] ∧ RowsAt K H a rs ∧ RowsAt K H b den ∧ Asc ds ∧ MakesOk ds rs 6 12 ∧ DenOk ds den ∧ ∀ w, IsWeb (lets ds) rs w → WebOk w →
  (∀ H', Same H H' → (∃ r ∈ den, keptB w.ways r = true) → Q .non H') ∧ ∀ p H', H p = none → Same H H' → (∀ r ∈ den, keptB w.ways r = false) → WorldAt K C H' p ds (homeW w den) → Q (.ref p) H'
theorem ok_check_home (T : Top K mg) : FnOk P w K mg base CX0 6 T.d_check_home.f T.d_check_home.d ["deeds", "rows", "denied"] (spCheckHome K) := by
  refine T.d_check_home.F.ok sc_check_home (fun vs H Q E h => ?_) (fun cdv A outer s H vs Q E hr h => ?_)
  · obtain ⟨ds, a, b, rs, den, rfl, _⟩ := h
    rfl
  · obtain ⟨ds, a, b, rs, den, rfl, hR, hRd, hA, hM, ⟨hd1, hd2⟩, q⟩ := h
    refine ⟨_,
      (pss_cons (ps_expr (pe_call (ok_check_makers T) (hr.mono (by decide)) (by rfl) T.d_check_makers.g T.d_check_makers.F.kp T.d_check_makers.b .nil pass0 (pa_cons (pv 0) (pa_cons (pv 1) pa_nil))))
      (pss_one (ps_if (pt_not (pt_val (pe_call (ok_are_rows_over T) (hr.mono (by decide)) (by rfl) T.d_are_rows_over.g T.d_are_rows_over.F.kp T.d_are_rows_over.b .nil pass0 (pa_cons (pv 0) (pa_cons (pv 2) (pa_cons (pe_glob (v := .int 6) rfl T.h_MOST_DENIED ⟨_, rfl⟩) (pa_cons (pe_glob (v := .int 60) rfl T.h_LONGEST_DENIED ⟨_, rfl⟩) pa_nil)))))))
      (pss_one ps_never)
      pss_nil)))
      , ?_⟩
    have h26 : ds.length ≤ 26 := by have := hA.2.2; omega
    refine ⟨_, rfl, _, rfl, ds, a, rs, rfl, hR, hA, hM, fun H1 s1 => ?_⟩
    refine ⟨_, rfl, _, rfl, ds, b, den, 6, 60, rfl, hRd.same s1, h26, hd1, by omega, by omega, hd2, fun H2 s2 => ⟨true, rfl, iteF (q H2 (s1.trans s2))⟩⟩
theorem ok_made_home (T : Top K mg) : FnOk P w K mg base CX0 8 T.d_made_home.f T.d_made_home.d ["deeds", "rows", "denied"] (spHome K T.C_RawWorld) := by
  refine T.d_made_home.F.ok sc_made_home (fun vs H Q E h => ?_) (fun cdv A outer s H vs Q E hr h => ?_)
  · obtain ⟨ds, a, b, rs, den, rfl, _⟩ := h
    rfl
  · obtain ⟨ds, a, b, rs, den, rfl, hR, hRd, hA, ⟨hm1, hm2⟩, ⟨hd1, hd2⟩, q⟩ := h
    have hu := hu_of hr
    refine ⟨_,
      (pss_cons (ps_set (i := 3) sc_made_home.nd rfl (Or.inl rfl) (pe_make T.k_Grown.made (ok_Grown___init__ T) (hr.mono (by decide)) (by rfl) T.k_Grown.g T.m_Grown___init__.b .nil pass0 (pa_cons (pe_call (ok_made_web T) (hr.mono (by decide)) (by rfl) T.d_made_web.g T.d_made_web.F.kp T.d_made_web.b .nil pass0 (pa_cons (pv 0) (pa_cons (pv 1) pa_nil))) pa_nil)))
      (pss_cons (ps_for PassesOwn.never rfl (pi_seq (pv 2)) (pg_name (i := 4) sc_made_home.nd rfl (Or.inl rfl))
      (pss_one (ps_if (pt_cmpR op_eq (pe_meth (pv 3) T.k_Grown.cl T.m_Grown_lead.m (ok_Grown_lead T) (hr.mono (by decide)) T.m_Grown_lead.b .nil pass0 (pa_cons (pe_call (ok_net_letters T) (hr.mono (by decide)) (by rfl) T.d_net_letters.g T.d_net_letters.F.kp T.d_net_letters.b .nil pass0 (pa_cons (pv 4) pa_nil)) pa_nil)) pe_int (nomark _))
      (pss_one (ps_ret pe_non))
      pss_nil)))
      (pss_one (ps_ret (pe_make T.k_RawWorld.made (ok_RawWorld___init__ T) (hr.mono (by decide)) (by rfl) T.k_RawWorld.g T.m_RawWorld___init__.b .nil pass0 (pa_cons (pv 0) (pa_cons (pe_call (ok_filled T) (hr.mono (by decide)) (by rfl) T.d_filled.g T.d_filled.F.kp T.d_filled.b .nil pass0 (pa_cons (pv 0) (pa_cons (pe_fld (pv 3) rfl) (pa_cons (pe_fld (pv 3) rfl) pa_nil)))) pa_nil)))))))
      , ?_⟩
    have h26 : ds.length ≤ 26 := by have := hA.2.2; omega
    refine ⟨_, rfl, _, rfl, ds, a, rs, 12, rfl, hR, h26, by omega, ⟨by omega, hm2⟩, fun wp w H1 hwp s1 hIs hwl hW => ?_⟩
    intro p dx hp hdx hne
    have s2 : Same H1 (upd (upd H1 dx (.own p)) p (.ins T.C_Grown dx [])) := (same_new hdx).trans (same_new (by rw [upd_ne hne.symm]; exact hp))
    refine ⟨p, dx, wp, ds, w, rfl, upd_same, hW.same s2, fun l gd H3 hl hgd hlp hG u3 => ⟨rfl, ?_⟩⟩
    obtain ⟨q1, q2⟩ := q w hIs hW.1
    have hIs2 := hIs.det
    have hok := hW.1
    have hpn : H p = none := s1.free hp
    have free2 : ∀ {b}, (upd (upd H1 dx (.own p)) p (.ins T.C_Grown dx [])) b = none → H b = none := fun {b} h => s1.free (s2.free h)
    have hln := free2 hl
    have hgn := free2 hgd
    have sU : ∀ {H'}, Upto [p, l, gd] H3 H' → Same H H' := fun {H'} u b o hb => by
      have h1 : b ≠ p := fun z => by rw [z, hpn] at hb; cases hb
      have h2 : b ≠ l := fun z => by rw [z, hln] at hb; cases hb
      have h3 : b ≠ gd := fun z => by rw [z, hgn] at hb; cases hb
      exact u _ _ (u3 _ _ (s2 _ _ (s1 _ _ hb)) (by simpa using h1)) (by simp; exact ⟨h1, h2, h3⟩)
    have gok : GwOk ⟨w.size, w.ways⟩ := ⟨hIs2, hok.lt⟩
    have hden : ∀ r ∈ den, r.length ≤ 60 := fun r hr => (hd2 r hr).2
    have hw72 : w.ways.length ≤ 72 := Nat.le_trans hwl (by omega)
    refine ⟨_, rfl, b, rfl, for_seq (K := K) (xs := encR den) (ds := den) (List.length_map _) (fun pre σ H' => ∃ v4, σ = [some (.str (dS ds)), some (.ref a), some (.ref b), some (.ref p), v4] ∧ GrownAt K T.C_Grown H' p l gd (growA ⟨w.size, w.ways⟩ pre) ∧ Upto [p, l, gd] H3 H' ∧ ∀ r ∈ pre, keptB w.ways r = false)
      ⟨none, rfl, hG, Upto.refl _ _, by simp⟩ ?_ ?_ ?_⟩
    · rcases hRd with h | h
      · refine .inl ?_
        rintro pre σ H' ⟨_, _, _, u4, _⟩
        exact SqL.of (sU u4 _ _ h)
      · refine .inr ?_
        rintro pre σ H' ⟨_, _, _, u4, _⟩
        exact SqT.of (sU u4 _ _ h)
    · rintro pre r post x σ H' e hx ⟨v4, rfl, hG4, u4, hk⟩
      have ex := encR_at e hx
      subst ex
      have hrm : r ∈ den := by rw [e]; simp
      have hpl : pre.length ≤ 6 := by
        have := congrArg List.length e
        simp at this
        omega
      obtain ⟨k1, k2, k3, k4⟩ := growA_ok (rs := pre) (m := 60) gok hok.pos fun r hr => hden r (by rw [e]; simp [hr])
      have hnl := net_length_le r
      have hr60 := hden r hrm
      have k5 : 60 * pre.length ≤ 360 := by omega
      obtain ⟨dx', _, _, hp4, _⟩ := id hG4
      refine ⟨_, rfl, p, dx', _, rfl, hp4, rfl, _, rfl, r, rfl, by omega, fun H5 s5 => ?_⟩
      refine ⟨p, l, gd, _, net r, rfl, hG4.same s5, k1.ok, k2, by simp only at k4; omega, fun H6 hG6 u6 => ?_⟩
      have hh := grow_home gok k1 hok.pos r
      refine ⟨rfl, _, rfl, ?_⟩
      generalize hgr : growR (growA ⟨w.size, w.ways⟩ pre) 0 (net r) = gr at *
      obtain ⟨g2, e2⟩ := gr
      show if decide (V.int ((e2 : Nat) : Int) = V.int ((0 : Nat) : Int)) = true then _ else _
      rw [dec_nat]
      by_cases c : e2 = 0
      · rw [decide_eq_true c]
        refine iteT ?_
        exact q1 H6 (sU ((u4.trans (Upto.of s5)).trans u6)) ⟨r, hrm, decide_eq_true (hh.mp c)⟩
      · rw [decide_eq_false c]
        refine iteF ?_
        refine ⟨_, rfl, ?_, (u4.trans (Upto.of s5)).trans u6, ?_⟩
        · rw [growA_snoc, hgr]
          exact hG6
        · intro r' hr'
          rcases List.mem_append.mp hr' with z | z
          · exact hk r' z
          · rw [List.mem_singleton.mp z]
            exact decide_eq_false fun z2 => c (hh.mpr z2)
    · rintro σ H' ⟨v4, rfl, hG4, u4, hk⟩
      obtain ⟨k1, k2, k3, k4⟩ := growA_ok (rs := den) (m := 60) gok hok.pos hden
      have k5 : 60 * den.length ≤ 360 := by omega
      have hsz := hok.size
      obtain ⟨dx', vs', kvs', hp4, hl4, hD4, _⟩ := id hG4
      simp only at k3 k4
      refine ⟨_, rfl, _, rfl, _, rfl, p, T.C_Grown, dx', _, _, rfl, hp4, T.k_Grown.cl, T.n_Grown_size, rfl, _, rfl, p, T.C_Grown, dx', _, _, rfl, hp4, T.k_Grown.cl, T.n_Grown_ways, rfl,
        ds, (growA ⟨w.size, w.ways⟩ den).n, l, (growA ⟨w.size, w.ways⟩ den).W, rfl, ⟨vs', hl4, hD4⟩, by omega, k1.ok.det, k1.ok.lt, by omega, h26, fun M H5 hM s5 hMv => ?_⟩
      intro x dx2 hx hdx2 hne2
      have s6 : Same H5 (upd (upd H5 dx2 (.own x)) x (.ins T.C_RawWorld dx2 [])) := (same_new hdx2).trans (same_new (by rw [upd_ne hne2.symm]; exact hx))
      have sH : Same H H5 := (sU u4).trans s5
      refine ⟨x, dx2, M, ds, homeW w den, rfl, upd_same, hA.2.1, h26, fill_ok k1.ok.det k2 k1.ok.lt ds, ?_, hMv.same s6, fun H7 hW7 u7 => ⟨rfl, ?_⟩⟩
      · show (growA ⟨w.size, w.ways⟩ den).n ≤ 200000
        omega
      refine q2 x H7 (sH.free hx) (fun c o hc => u7 _ _ (s6 _ _ (sH _ _ hc)) ?_) hk hW7
      have : c ≠ x := fun z => by rw [z, sH.free hx] at hc; cases hc
      simpa using this
theorem ok_home (T : Top K mg) : FnOk P w K mg base CX0 9 T.d_home.f T.d_home.d ["deeds", "rows", "denied"] (spHome K T.C_RawWorld) := by
  refine T.d_home.F.ok sc_home (fun vs H Q E h => ?_) (fun cdv A outer s H vs Q E hr h => ?_)
  · obtain ⟨ds, a, b, rs, den, rfl, _⟩ := h
    rfl
  · obtain ⟨ds, a, b, rs, den, rfl, hR, hRd, hA, hM, hd, q⟩ := h
    refine ⟨_,
      (pss_cons (ps_expr (pe_call (ok_check_home T) (hr.mono (by decide)) (by rfl) T.d_check_home.g T.d_check_home.F.kp T.d_check_home.b .nil pass0 (pa_cons (pv 0) (pa_cons (pv 1) (pa_cons (pv 2) pa_nil)))))
      (pss_one (ps_ret (pe_call (ok_made_home T) (hr.mono (by decide)) (by rfl) T.d_made_home.g T.d_made_home.F.kp T.d_made_home.b .nil pass0 (pa_cons (pv 0) (pa_cons (pv 1) (pa_cons (pv 2) pa_nil)))))))
      , ?_⟩
    refine ⟨_, rfl, _, rfl, _, rfl, ds, a, b, rs, den, rfl, hR, hRd, hA, hM, hd, fun H1 s1 => ?_⟩
    refine ⟨_, rfl, _, rfl, _, rfl, ds, a, b, rs, den, rfl, hR.same s1, hRd.same s1, hA, hM, hd, fun w hI hok => ?_⟩
    obtain ⟨q1, q2⟩ := q w hI hok
    exact ⟨fun H' s2 h => q1 H' (s1.trans s2) h, fun p H' hp s2 h hW => q2 p H' (s1.free hp) (s1.trans s2) h hW⟩
def spLeadsHome (K : PySem.W.Frag) (C : Addr) : Sp := fun vs H Q _ => ∃ (p : Addr) (ds : List (Fin 26)) (m : Wd) (r : Row), vs = [.ref p, .str (rS r)] ∧ WorldAt K C H p ds m ∧ OverD ds r ∧ Q (.bl (decide (goM m 0 r = 0))) H
def isHomeB (m : Wd) (rs den : List Row) : Bool := decide ((∀ r ∈ rs, goM m 0 r = 0) ∧ ∀ r ∈ den, goM m 0 r ≠ 0)
def spIsHome (K : PySem.W.Frag) (C : Addr) : Sp := fun vs H Q _ => ∃ ds a b p rs den m, vs = [.str (dS ds), .ref a, .ref b, .ref p] ∧ RowsAt K H a rs ∧ RowsAt K H b den ∧ Asc ds ∧ MakesOk ds rs 6 12 ∧ DenOk ds den ∧ WorldAt K C H p ds m ∧ ∀ H', Same H H' → Q (.bl (isHomeB m rs den)) H'
theorem ok_leads_home (T : Top K mg) {C : Addr} (c : WC K C) : FnOk P w K mg base CX0 1 T.d_leads_home.f T.d_leads_home.d ["world", "row"] (spLeadsHome K C) := by
  refine T.d_leads_home.F.ok sc_leads_home (fun vs H Q E h => ?_) (fun cdv A outer s H vs Q E hr h => ?_)
  · obtain ⟨p, ds, m, r, rfl, _⟩ := h
    rfl
  · obtain ⟨p, ds, m, r, rfl, ⟨hm, hz, dx, k, b, hp, ⟨kv, a1, a2⟩, _⟩, hr', q⟩ := h
    have hu := hu_of hr
    refine ⟨_,
      (pss_cons (ps_set (i := 2) sc_leads_home.nd rfl (Or.inl rfl) pe_int)
      (pss_cons (ps_for PassesOwn.never rfl (pi_str (pv 1)) (pg_name (i := 3) sc_leads_home.nd rfl (Or.inl rfl))
      (pss_one (ps_set (i := 2) sc_leads_home.nd rfl (Or.inl rfl) (pe_ix ix_tup (pe_dget hu (pe_fld (pv 0) rfl) (pv 3) (fun _ _ => rfl)) (pv 2) (fun _ _ => rfl)))))
      (pss_one (ps_ret (pe_cmpR op_eq (pv 2) pe_int (nomark _))))))
      , ?_⟩
    refine ⟨_, rfl, _, rfl, for_row (r := r) (fun pre σ H' => ∃ v3, σ = [some (.ref p), some (.str (rS r)), some (.int (goM m 0 pre : Nat)), v3] ∧ H' = H ∧ goM m 0 pre < m.size) ⟨none, rfl, rfl, hm.pos⟩ ?_ ?_⟩
    · rintro pre x post σ H' e ⟨v3, rfl, rfl, hlt⟩
      have hx : x.d ∈ ds := lets_d (hr' x (by rw [e]; simp))
      obtain ⟨t, b1, b2⟩ := a2 x hx
      refine ⟨_, rfl, p, C, dx, _, _, rfl, hp, c.cl, c.moves, rfl, _, rfl, k, .ref t, rfl, dgK (k := .inr (lS x)) a1 b1, _, rfl, t, _, _, _, rfl, rfl, SqT.of b2, atI_nat (natV_at (mvL_at hm hx hlt)), ?_⟩
      have eg : goM m 0 (pre ++ [x]) = mvD m (goM m 0 pre) x := by rw [goM_app]; rfl
      refine ⟨some (.str (lS x)), ?_, rfl, by rw [eg]; exact mvD_lt hm hx hlt⟩
      rw [eg]
      rfl
    · rintro σ H' ⟨v3, rfl, rfl, hlt⟩
      refine ⟨_, rfl, rfl, ?_⟩
      show Q (V.bl (decide (V.int ((goM m 0 r : Nat) : Int) = V.int ((0 : Nat) : Int)))) H'
      rw [dec_nat]
      exact q
theorem ok_is_home (T : Top K mg) : FnOk P w K mg base CX0 7 T.d_is_home.f T.d_is_home.d ["deeds", "rows", "denied", "thing"] (spIsHome K T.C_RawWorld) := by
  refine T.d_is_home.F.ok sc_is_home (fun vs H Q E h => ?_) (fun cdv A outer s H vs Q E hr h => ?_)
  · obtain ⟨ds, a, b, p, rs, den, m, rfl, _⟩ := h
    rfl
  · obtain ⟨ds, a, b, p, rs, den, m, rfl, hR, hRd, hA, hM, hd, hW, q⟩ := h
    have hu := hu_of hr
    have c := wcR T
    refine ⟨_,
      (pss_cons (ps_expr (pe_call (ok_check_home T) (hr.mono (by decide)) (by rfl) T.d_check_home.g T.d_check_home.F.kp T.d_check_home.b .nil pass0 (pa_cons (pv 0) (pa_cons (pv 1) (pa_cons (pv 2) pa_nil)))))
      (pss_cons (ps_if (PW.pt (pw_or (pt_not (pt_val (pe_callB call_isi (by rfl) T.z_isinstance (by decide +kernel) (pa_cons (pv 3) (pa_cons (pe_glob (v := .ref T.C_World) rfl T.k_World.g rfl) pa_nil))))) (pw_or1 (pt_cmpR op_ne (pe_fld (pv 3) rfl) (pv 0) (nomark _)))))
      (pss_one (ps_ret pe_bl))
      pss_nil)
      (pss_cons (ps_for PassesOwn.never rfl (pi_seq (pv 1)) (pg_name (i := 4) sc_is_home.nd rfl (Or.inl rfl))
      (pss_one (ps_if (pt_not (pt_val (pe_call (ok_leads_home T c) (hr.mono (by decide)) (by rfl) T.d_leads_home.g T.d_leads_home.F.kp T.d_leads_home.b .nil pass0 (pa_cons (pv 3) (pa_cons (pv 4) pa_nil)))))
      (pss_one (ps_ret pe_bl))
      pss_nil)))
      (pss_cons (ps_for PassesOwn.never rfl (pi_seq (pv 2)) (pg_name (i := 4) sc_is_home.nd rfl (Or.inl rfl))
      (pss_one (ps_if (pt_val (pe_call (ok_leads_home T c) (hr.mono (by decide)) (by rfl) T.d_leads_home.g T.d_leads_home.F.kp T.d_leads_home.b .nil pass0 (pa_cons (pv 3) (pa_cons (pv 4) pa_nil))))
      (pss_one (ps_ret pe_bl))
      pss_nil)))
      (pss_one (ps_ret pe_bl))))))
      , ?_⟩
    have J := T.j_RawWorld_World
    refine ⟨_, rfl, _, rfl, _, rfl, ds, a, b, rs, den, rfl, hR, hRd, hA, hM, hd, fun H1 s1 => ?_⟩
    have hW1 := hW.same s1
    obtain ⟨hm, hz, dx, k, b', hp, hAll, _⟩ := id hW1
    have dec_same : ∀ x : V, (!decide (x = x)) = false := fun x => by simp
    refine ⟨_, rfl, .ref p, .ref T.C_World, .ref T.C_RawWorld, .ref T.C_World, true, rfl, .own _, .base (.ins hp J.cl J.ha J.hn J.htk J.hm), J.me, true, rfl, ?_⟩
    refine iteF ?_
    refine ⟨_, rfl, p, T.C_RawWorld, dx, _, _, rfl, hp, c.cl, c.deeds, rfl, _, rfl, rfl, _, rfl, ?_⟩
    rw [dec_same]
    refine iteF ?_
    have hRs := hR.same s1
    have hRds := hRd.same s1
    have q' := q H1 s1
    refine ⟨_, rfl, a, rfl, for_seq (K := K) (xs := encR rs) (ds := rs) (List.length_map _) (fun pre σ H' => ∃ v4, σ = [some (.str (dS ds)), some (.ref a), some (.ref b), some (.ref p), v4] ∧ H' = H1 ∧ ∀ r ∈ pre, goM m 0 r = 0) ⟨none, rfl, rfl, by simp⟩ ?_ ?_ ?_⟩
    · rcases hRs with h | h
      · refine .inl ?_
        rintro pre σ H' ⟨_, _, rfl, _⟩
        exact SqL.of h
      · refine .inr ?_
        rintro pre σ H' ⟨_, _, rfl, _⟩
        exact SqT.of h
    · rintro pre r post x σ H' e hx ⟨v4, rfl, rfl, hk⟩
      have ex := encR_at e hx
      subst ex
      have hrm : r ∈ rs := by rw [e]; simp
      refine ⟨_, rfl, _, rfl, p, ds, m, r, rfl, hW1, (hM.2 r hrm).1, _, rfl, ?_⟩
      by_cases c0 : goM m 0 r = 0
      · rw [decide_eq_true c0]
        refine iteF ?_
        refine ⟨_, rfl, rfl, fun r' hr' => ?_⟩
        rcases List.mem_append.mp hr' with z | z
        · exact hk r' z
        · rw [List.mem_singleton.mp z]
          exact c0
      · rw [decide_eq_false c0]
        refine iteT ?_
        have : isHomeB m rs den = false := decide_eq_false fun z => c0 (z.1 r hrm)
        rw [this] at q'
        exact q'
    · rintro σ H' ⟨v4, rfl, rfl, hk⟩
      refine ⟨_, rfl, b, rfl, for_seq (K := K) (xs := encR den) (ds := den) (List.length_map _) (fun pre σ H2 => ∃ v4, σ = [some (.str (dS ds)), some (.ref a), some (.ref b), some (.ref p), v4] ∧ H2 = H' ∧ ∀ r ∈ pre, goM m 0 r ≠ 0) ⟨v4, rfl, rfl, by simp⟩ ?_ ?_ ?_⟩
      · rcases hRds with h | h
        · refine .inl ?_
          rintro pre σ H' ⟨_, _, rfl, _⟩
          exact SqL.of h
        · refine .inr ?_
          rintro pre σ H' ⟨_, _, rfl, _⟩
          exact SqT.of h
      · rintro pre r post x σ H' e hx ⟨v4, rfl, rfl, hk2⟩
        have ex := encR_at e hx
        subst ex
        have hrm : r ∈ den := by rw [e]; simp
        refine ⟨_, rfl, _, rfl, p, ds, m, r, rfl, hW1, (hd.2 r hrm).1, _, rfl, ?_⟩
        by_cases c0 : goM m 0 r = 0
        · rw [decide_eq_true c0]
          refine iteT ?_
          have : isHomeB m rs den = false := decide_eq_false fun z => z.2 r hrm c0
          rw [this] at q'
          exact q'
        · rw [decide_eq_false c0]
          refine iteF ?_
          refine ⟨_, rfl, rfl, fun r' hr' => ?_⟩
          rcases List.mem_append.mp hr' with z | z
          · exact hk2 r' z
          · rw [List.mem_singleton.mp z]
            exact c0
      · rintro σ H2 ⟨v4, rfl, rfl, hk2⟩
        have : isHomeB m rs den = true := decide_eq_true ⟨hk, hk2⟩
        rw [this] at q'
        exact q'
end
end Rb
/-! What a web keeps. -/
namespace Rb
set_option linter.all false
set_option maxRecDepth 100000
set_option maxHeartbeats 4000000
open PySem PySem.Spec PyProof.Rows L2
def oV : Option Nat → V
  | none => .non
  | some q => .int q
theorem WebAt.step {K : PySem.W.Frag} {C : Addr} {H : Hp} {p dx t l : Addr} {ads : List Addr} {δ : Nat → Lt → Option Nat} {m i : Nat} (h : StepsAt H ads δ m) (hi : i < ads.length) : ∃ a kvs, ads[i]? = some a ∧ H a = some (.dK kvs) ∧ StK kvs (δ i) ∧ atI (ads.map V.ref) (i : Int) = some (.ref a) := by
  have h1 : ads[i]? = some ads[i] := List.getElem?_eq_getElem hi
  obtain ⟨kvs, g1, g2, _⟩ := h.at_ i _ h1
  exact ⟨ads[i], kvs, h1, g1, g2, atI_nat (by rw [List.getElem?_map, h1]; rfl)⟩
theorem steps_lt {w : WebD} (o : WebOk w) {i q : Nat} {x : Lt} (h : stepsD w.ways i x = some q) : q < w.size := by
  have hs := stepsD_sound _ h
  unfold St at hs
  split at hs
  · exact (o.lt _ hs).1
  · exact (o.lt _ hs).2
section
variable {P : Program} {w : World} {K : PySem.W.Frag} {mg : Str → Option Value} {base : Heap}
def spPlace (K : PySem.W.Frag) (C : Addr) : Sp := fun vs H Q _ => ∃ (p : Addr) (ds : List (Fin 26)) (w : WebD) (i : Nat) (r : Row), vs = [.ref p, .int i, .str (rS r)] ∧ WebAt K C H p ds w ∧ i < w.size ∧ Q (oV (walkD (stepsD w.ways) i r)) H
def spKept (K : PySem.W.Frag) (C : Addr) : Sp := fun vs H Q _ => ∃ (p : Addr) (ds : List (Fin 26)) (w : WebD) (r : Row), vs = [.ref p, .str (rS r)] ∧ WebAt K C H p ds w ∧ r.length ≤ 400000 ∧ ∀ H', Same H H' → Q (.bl (keptB w.ways r)) H'
def spKeeps (K : PySem.W.Frag) (C : Addr) : Sp := fun vs H Q _ => ∃ (p : Addr) (ds : List (Fin 26)) (w : WebD) (r : Row), vs = [.ref p, .str (rS r)] ∧ WebAt K C H p ds w ∧ ds.length ≤ 26 ∧ OverD ds r ∧ r.length ≤ 100000 ∧ ∀ H', Same H H' → Q (.bl (keptB w.ways r)) H'
end
end Rb
/-! The law's own draws. -/
namespace Rb
set_option linter.all false
set_option maxRecDepth 100000
set_option maxHeartbeats 4000000
open PySem PySem.Spec PyProof.Rows L2
/-- a pool at a, its great numbers at g -/
def PoolAt (H : Hp) (a g : Addr) : Prop := a ≠ g ∧ ∃ (sd ct : Int) (gs : List Int), H a = some (.lst [.int sd, .int ct, .ref g]) ∧ H g = some (.lst (gs.map V.int))
theorem PoolAt.same {H H' : Hp} {a g : Addr} (h : PoolAt H a g) (e : Same H H') : PoolAt H' a g := by
  obtain ⟨n, sd, ct, gs, h1, h2⟩ := h
  exact ⟨n, sd, ct, gs, e _ _ h1, e _ _ h2⟩
theorem PoolAt.upto {H H' : Hp} {a g : Addr} {S : List Addr} (h : PoolAt H a g) (e : Upto S H H') (ha : a ∉ S) (hg : g ∉ S) : PoolAt H' a g := by
  obtain ⟨n, sd, ct, gs, h1, h2⟩ := h
  exact ⟨n, sd, ct, gs, e _ _ h1 ha, e _ _ h2 hg⟩
theorem PoolAt.mut {H : Hp} {a g : Addr} (h : PoolAt H a g) : ∀ b ∈ [a, g], Mut (H b) := by
  obtain ⟨n, sd, ct, gs, h1, h2⟩ := h
  intro b hb
  rcases List.mem_cons.mp hb with rfl | hb
  · rw [h1]; exact True.intro
  · rw [List.mem_singleton.mp hb, h2]; exact True.intro
theorem bits_ten : Builtin.Int.intBits 10 ≤ 64 := by decide +kernel
theorem fmod_lt {i n : Int} (hn : 0 < n) : ∃ d : Nat, i.fmod n = (d : Int) ∧ (d : Int) < n := by
  have h1 := Int.fmod_nonneg_of_pos i hn
  have h2 := Int.fmod_lt_of_pos i hn
  exact ⟨(i.fmod n).toNat, by omega, by omega⟩
theorem cm_fmod (i j : Int) : CMul (i.fmod 2147483647) j := by
  obtain ⟨d, h1, h2⟩ := fmod_lt (i := i) (n := 2147483647) (by decide)
  refine .inl ⟨?_, ?_⟩
  · rw [h1]; omega
  · rw [h1]; omega
theorem cutV_map {α : Type} (f : α → V) (ns : List α) (lo hi : Option Int) : ∃ ms : List α, cutV (ns.map f) lo hi = ms.map f ∧ ms.length ≤ ns.length ∧ ∀ x ∈ ms, x ∈ ns := by
  unfold cutV
  rw [← List.map_drop, ← List.map_take]
  refine ⟨_, rfl, ?_, ?_⟩
  · rw [List.length_take, List.length_drop]
    omega
  · intro x hx
    exact List.mem_of_mem_drop (List.mem_of_mem_take hx)
theorem nzA : (1000003 : Int) ≠ 0 := by decide
theorem nzB : (2147483629 : Int) ≠ 0 := by decide
theorem nzC : (2147483647 : Int) ≠ 0 := by decide
theorem nzD : (2147483399 : Int) ≠ 0 := by decide
theorem ix31 : ixN 3 1 = some 1 := by decide
theorem pow18 : (0 : Int) ≤ 18 ∧ (Builtin.Int.intBits 10 : Int) * 18 ≤ 2 ^ 27 := by decide +kernel
theorem pow60 : (0 : Int) ≤ 60 ∧ (Builtin.Int.intBits 10 : Int) * 60 ≤ 2 ^ 27 := by decide +kernel
theorem pow12 : (0 : Int) ≤ 12 ∧ (Builtin.Int.intBits ((10 : Int) ^ (60 : Int).toNat) : Int) * 12 ≤ 2 ^ 27 := by decide +kernel
theorem pow720 : (((10 : Int) ^ (60 : Int).toNat) ^ (12 : Int).toNat) ≠ 0 := by decide +kernel
section
variable {P : Program} {w : World} {K : PySem.W.Frag} {mg : Str → Option Value} {base : Heap}
def spPool (K : PySem.W.Frag) : Sp := fun vs H Q _ => ∃ (a : Addr) (ns : List Int), vs = [.ref a] ∧ SqL K H a (ns.map V.int) ∧ ns.length ≤ 1000 ∧ ∀ p g H', H p = none → H g = none → Same H H' → PoolAt H' p g → Q (.ref p) H'
theorem ok__law_pool (T : Top K mg) : FnOk P w K mg base CX0 1 T.d__law_pool.f T.d__law_pool.d ["_law_script"] (spPool K) := by
  refine T.d__law_pool.F.ok sc__law_pool (fun vs H Q E h => ?_) (fun cdv A outer s H vs Q E hr h => ?_)
  · obtain ⟨a, ns, rfl, _⟩ := h
    rfl
  · obtain ⟨a, ns, rfl, ha, hl, q⟩ := h
    have hu := hu_of hr
    refine ⟨_,
      (pss_cons (ps_set (i := 1) sc__law_pool.nd rfl (Or.inl rfl) (pe_op op_add pe_int (pe_callB call_len_seq (by rfl) T.z_len (by decide +kernel) (pa_cons (pv 0) pa_nil))))
      (pss_cons (ps_set (i := 2) sc__law_pool.nd rfl (Or.inl rfl) (pe_lst pa_nil))
      (pss_cons (ps_for PassesOwn.never rfl (pi_list (pe_slice sl_list (pv 0) po_none (po_some pe_int))) (pg_name (i := 3) sc__law_pool.nd rfl (Or.inl rfl))
      (pss_cons (ps_set (i := 1) sc__law_pool.nd rfl (Or.inl rfl) (pe_op op_modN (pe_callTy call_int1 (by rfl) T.z_int (by decide +kernel) (pa_cons (pe_op op_add (pe_op op_add (pe_op op_mul (pv 1) pe_int) (pe_op op_modN (pe_callTy call_int1 (by rfl) T.z_int (by decide +kernel) (pa_cons (pv 3) pa_nil)) pe_int)) pe_int) pa_nil)) pe_int))
      (pss_one (ps_if (pt_cmpR op_ge (pv 3) (pe_op op_powB pe_int pe_int) (nomark _))
      (pss_one (ps_expr (pe_bm PySem.F.plainAttrs_list PySem.F.slot_list_append PySem.F.type_list_append mt_append (pv 2) (pa_cons (pe_op op_modN (pe_callTy call_int1 (by rfl) T.z_int (by decide +kernel) (pa_cons (pv 3) pa_nil)) (pe_op op_powB (pe_op op_powB pe_int pe_int) pe_int)) pa_nil))))
      pss_nil))))
      (pss_one (ps_ret (pe_lst (pa_cons (pv 1) (pa_cons pe_int (pa_cons (pv 2) pa_nil)))))))))
      , ?_⟩
    refine ⟨_, rfl, a, _, rfl, .inl ha, _, _, rfl, rfl, ?_⟩
    refine ⟨(by show 0 ≤ sizeLine; decide), fun g hg => ?_⟩
    have s1 : Same H (upd H g (.lst [])) := same_new hg
    have ha1 : SqL K (upd H g (.lst [])) a (ns.map V.int) := ha.ext (fun b o hb => s1 b o hb)
    refine ⟨_, rfl, ?_⟩
    obtain ⟨ms, ems, hml, _⟩ := cutV_map V.int ns none (some 63)
    refine ⟨63, rfl, a, _, rfl, ha1, fun c hc => ?_⟩
    rw [ems]
    have s2 : Same H (upd (upd H g (.lst [])) c (.lst (ms.map V.int))) := s1.trans (same_new hc)
    have hgc : g ≠ c := ne_of_none upd_same hc
    refine ⟨c, rfl, ⟨_, SqL.of upd_same⟩, for_dl (K := K) (xs := ms.map V.int) (ds := ms) (List.length_map _) (fun pre σ H' => ∃ (sd : Int) (gs : List Int) (v3 : Option V), σ = [some (.ref a), some (.int sd), some (.ref g), v3] ∧ Same H H' ∧ H' g = some (.lst (gs.map V.int)) ∧ H' c = some (.lst (ms.map V.int)) ∧ gs.length ≤ pre.length)
      ⟨_, [], none, rfl, s2, by rw [upd_ne hgc]; exact upd_same, upd_same, Nat.le_refl _⟩ ?_ ?_ ?_⟩
    · rintro pre σ H' ⟨_, _, _, _, _, _, h, _⟩
      exact SqL.of h
    · rintro pre x post v σ H' e hx ⟨sd, gs, v3, rfl, s3, f1, f2, f3⟩
      have hvx : v = .int x := by
        rw [e, List.map_append, List.getElem?_append_right (by simp)] at hx
        simpa using hx.symm
      subst hvx
      have hpre : pre.length < 1000 := by
        have := congrArg List.length e
        simp at this
        omega
      refine ⟨_, rfl, _, _, rfl, rfl, .inr ⟨by decide, by decide⟩, _, rfl, .inl ⟨_, rfl, _, _, rfl, rfl, nzA, _, _, rfl, rfl, _, _, rfl, rfl, .inl ⟨_, rfl, _, _, rfl, rfl, nzB, ?_⟩⟩⟩
      refine ⟨_, rfl, _, _, rfl, rfl, pow18, _, _, rfl, rfl, _, rfl, ?_⟩
      refine ite2 (fun h => ?_) (fun h => ?_)
      · refine ⟨_, rfl, .inl ⟨rfl, _, SqL.of f1⟩, _, rfl, .inl ⟨_, rfl, _, _, rfl, rfl, pow60, _, _, rfl, rfl, pow12, _, _, rfl, rfl, pow720, ?_⟩⟩
        refine ⟨g, _, _, rfl, rfl, f1, sz1M (by rw [List.length_map]; omega), ?_⟩
        refine ⟨_, gs ++ [_], _, rfl, same_mut s3 hg, by rw [upd_same]; simp; rfl, ?_, by simp; omega⟩
        rw [upd_ne hgc.symm]
        exact f2
      · exact ⟨_, gs, _, rfl, s3, f1, f2, by simp; omega⟩
    · rintro σ H' ⟨sd, gs, v3, rfl, s3, f1, f2, f3⟩
      refine ⟨_, rfl, _, rfl, (by show 3 ≤ sizeLine; decide), fun p hp => ?_⟩
      have hgp : g ≠ p := ne_of_none f1 hp
      exact q p g _ (s3.free hp) hg (s3.trans (same_new hp)) ⟨hgp.symm, sd, 0, gs, upd_same, by rw [upd_ne hgp]; exact f1⟩
def spDraw : Sp := fun vs H Q _ => ∃ (a g : Addr) (n : Nat), vs = [.ref a, .int n] ∧ PoolAt H a g ∧ 0 < n ∧ n ≤ 1000000 ∧ ∀ (d : Nat) H', d < n → PoolAt H' a g → Upto [a, g] H H' → Q (.int d) H'
theorem ok__law_draw (T : Top K mg) : FnOk P w K mg base CX0 1 T.d__law_draw.f T.d__law_draw.d ["_law_pool_here", "_law_number"] spDraw := by
  refine T.d__law_draw.F.ok sc__law_draw (fun vs H Q E h => ?_) (fun cdv A outer s H vs Q E hr h => ?_)
  · obtain ⟨a, g, n, rfl, _⟩ := h
    rfl
  · obtain ⟨a, g, n, rfl, ⟨hne, sd, ct, gs, h1, h2⟩, hn0, hn, q⟩ := h
    have hu := hu_of hr
    refine ⟨_,
      (pss_cons (ps_asg (pe_op op_add (pe_ix ix_list (pv 0) pe_int (fun _ _ => rfl)) pe_int) (pg_sub (pv 0) pe_int set_list))
      (pss_cons (ps_if (pt_cmpR op_gt (pe_callB call_len_seq (by rfl) T.z_len (by decide +kernel) (pa_cons (pe_ix ix_list (pv 0) pe_int (fun _ _ => rfl)) pa_nil)) pe_int (nomark _))
      (pss_cons (ps_set (i := 2) sc__law_draw.nd rfl (Or.inl rfl) (pe_op op_modN (pe_callTy call_int1 (by rfl) T.z_int (by decide +kernel) (pa_cons (pe_ix ix_list (pe_ix ix_list (pv 0) pe_int (fun _ _ => rfl)) pe_int (fun _ _ => rfl)) pa_nil)) (pv 1)))
      (pss_cons (ps_asg (pe_op op_fdivN (pe_ix ix_list (pe_ix ix_list (pv 0) pe_int (fun _ _ => rfl)) pe_int (fun _ _ => rfl)) (pv 1)) (pg_sub (pe_ix ix_list (pv 0) pe_int (fun _ _ => rfl)) pe_int set_list))
      (pss_cons (ps_if (pt_cmpR op_eq (pe_ix ix_list (pe_ix ix_list (pv 0) pe_int (fun _ _ => rfl)) pe_int (fun _ _ => rfl)) pe_int (nomark _))
      (pss_one (ps_expr (pe_bm PySem.F.plainAttrs_list PySem.F.slot_list_pop PySem.F.type_list_pop mt_popAt (pe_ix ix_list (pv 0) pe_int (fun _ _ => rfl)) (pa_cons pe_int pa_nil))))
      pss_nil)
      (pss_one (ps_ret (pv 2))))))
      pss_nil)
      (pss_cons (ps_set (i := 3) sc__law_draw.nd rfl (Or.inl rfl) (pe_op op_modN (pe_callTy call_int1 (by rfl) T.z_int (by decide +kernel) (pa_cons (pe_op op_mul (pe_op op_add (pe_ix ix_list (pv 0) pe_int (fun _ _ => rfl)) (pe_op op_mul pe_int (pe_ix ix_list (pv 0) pe_int (fun _ _ => rfl)))) pe_int) pa_nil)) pe_int))
      (pss_cons (ps_set (i := 3) sc__law_draw.nd rfl (Or.inl rfl) (pe_op op_modN (pe_callTy call_int1 (by rfl) T.z_int (by decide +kernel) (pa_cons (pe_op op_mul (pv 3) (pe_op op_add (pe_op op_fdivN (pv 3) pe_int) pe_int)) pa_nil)) pe_int))
      (pss_cons (ps_set (i := 3) sc__law_draw.nd rfl (Or.inl rfl) (pe_op op_modN (pe_callTy call_int1 (by rfl) T.z_int (by decide +kernel) (pa_cons (pe_op op_mul (pv 3) (pe_op op_add (pe_op op_fdivN (pv 3) pe_int) pe_int)) pa_nil)) pe_int))
      (pss_one (ps_ret (pe_op op_modN (pe_callTy call_int1 (by rfl) T.z_int (by decide +kernel) (pa_cons (pe_op op_fdivN (pv 3) pe_int) pa_nil)) (pv 1)))))))))
      , ?_⟩
    have at0 : ∀ {xs : List V} {v : V}, xs[0]? = some v → atI xs 0 = some v := fun h => atI_nat (j := 0) h
    have at1 : ∀ {xs : List V} {v : V}, xs[1]? = some v → atI xs 1 = some v := fun h => atI_nat (j := 1) h
    have at2 : ∀ {xs : List V} {v : V}, xs[2]? = some v → atI xs 2 = some v := fun h => atI_nat (j := 2) h
    refine ⟨_, rfl, a, _, _, _, rfl, rfl, SqL.of h1, at1 rfl, _, _, rfl, rfl, ?_⟩
    refine ⟨_, rfl, a, _, 1, 1, rfl, rfl, h1, ix31, ?_⟩
    generalize eH1 : upd H a (.lst (List.set [V.int sd, V.int ct, V.ref g] 1 _)) = H1
    have k1 : H1 a = some (.lst [.int sd, .int (ct + 1), .ref g]) := by rw [← eH1, upd_same]; rfl
    have k2 : H1 g = some (.lst (gs.map V.int)) := by rw [← eH1, upd_ne hne.symm]; exact h2
    have u1 : Upto [a, g] H H1 := by rw [← eH1]; exact upto_in (Upto.refl _ _) (by simp)
    refine ⟨_, rfl, a, _, _, _, rfl, rfl, SqL.of k1, at2 rfl, g, _, rfl, .inl (SqL.of k2), _, _, rfl, rfl, _, rfl, ?_⟩
    show if decide ((0 : Int) < ((gs.map V.int).length : Nat)) = true then _ else _
    cases gs with
    | nil =>
      refine iteF ?_
      refine ⟨_, rfl, a, _, _, _, rfl, rfl, SqL.of k1, at0 rfl, _, rfl, a, _, _, _, rfl, rfl, SqL.of k1, at1 rfl, _, _, rfl, rfl, .inl ⟨by decide, by decide⟩, _, _, rfl, rfl, _, _, rfl, rfl, .inr ⟨by decide, by decide⟩, .inl ⟨_, rfl, _, _, rfl, rfl, nzC, ?_⟩⟩
      refine ⟨_, rfl, _, rfl, _, _, rfl, rfl, ⟨by decide, by decide⟩, _, _, rfl, rfl, _, _, rfl, rfl, cm_fmod _ _, .inl ⟨_, rfl, _, _, rfl, rfl, nzC, ?_⟩⟩
      refine ⟨_, rfl, _, rfl, _, _, rfl, rfl, ⟨by decide, by decide⟩, _, _, rfl, rfl, _, _, rfl, rfl, cm_fmod _ _, .inl ⟨_, rfl, _, _, rfl, rfl, nzD, ?_⟩⟩
      refine ⟨_, rfl, _, _, rfl, rfl, ⟨by decide, by decide⟩, .inl ⟨_, rfl, _, rfl, _, _, rfl, rfl, by omega, ?_⟩⟩
      have fin : ∀ y : Int, Q (.int (y.fmod n)) H1 := fun y => by
        obtain ⟨d, e1, e2⟩ := fmod_lt (i := y) (n := (n : Int)) (by omega)
        rw [e1]
        exact q d H1 (by omega) ⟨hne, sd, ct + 1, [], k1, k2⟩ u1
      exact fin _
    | cons x gs =>
      rw [decide_eq_true (by rw [List.map_cons, List.length_cons]; omega)]
      refine iteT ?_
      refine ⟨_, rfl, a, _, _, _, rfl, rfl, SqL.of k1, at2 rfl, g, _, _, _, rfl, rfl, SqL.of k2, at0 rfl, .inl ⟨_, rfl, _, rfl, _, _, rfl, rfl, by omega, ?_⟩⟩
      refine ⟨_, rfl, a, _, _, _, rfl, rfl, SqL.of k1, at2 rfl, g, _, _, _, rfl, rfl, SqL.of k2, at0 rfl, _, rfl, _, _, rfl, rfl, ⟨by omega, by omega⟩, ?_⟩
      refine ⟨_, rfl, a, _, _, _, rfl, rfl, SqL.of k1, at2 rfl, g, _, 0, 0, rfl, rfl, k2, by simp [ixN], ?_⟩
      generalize eH2 : upd H1 g (.lst (List.set _ 0 _)) = H2
      have m1 : H2 a = some (.lst [.int sd, .int (ct + 1), .ref g]) := by rw [← eH2, upd_ne hne]; exact k1
      have m2 : H2 g = some (.lst ((x.fdiv n :: gs).map V.int)) := by rw [← eH2, upd_same]; rfl
      have u2 : Upto [a, g] H H2 := by rw [← eH2]; exact upto_in u1 (by simp)
      obtain ⟨d, e1, e2⟩ := fmod_lt (i := x) (n := (n : Int)) (by omega)
      refine ⟨_, rfl, a, _, _, _, rfl, rfl, SqL.of m1, at2 rfl, g, _, _, _, rfl, rfl, SqL.of m2, at0 rfl, rfl, _, rfl, ?_⟩
      refine ite2 (fun h => ?_) (fun h => ?_)
      · refine ⟨_, rfl, a, _, _, _, rfl, rfl, SqL.of m1, at2 rfl, .inl ⟨rfl, _, SqL.of m2⟩, g, _, 0, 0, _, rfl, rfl, m2, by decide, by decide, by simp [seqIndex?], rfl, ?_⟩
        refine ⟨_, rfl, ?_⟩
        show Q (.int (x.fmod n)) _
        rw [e1]
        refine q d _ (by omega) ⟨hne, sd, ct + 1, gs, by rw [upd_ne hne]; exact m1, by rw [upd_same]; rfl⟩ (upto_in u2 (by simp))
      · refine ⟨_, rfl, ?_⟩
        show Q (.int (x.fmod n)) _
        rw [e1]
        exact q d _ (by omega) ⟨hne, sd, ct + 1, _, m1, m2⟩ u2
end
end Rb
/-! The law's own letters, words. -/
namespace Rb
set_option linter.all false
set_option maxRecDepth 100000
set_option maxHeartbeats 4000000
open PySem PySem.Spec PyProof.Rows L2
def encL (r : Row) : List V := r.map fun x => .str (lS x)
theorem encL_map (r : Row) : encL r = (r.map lS).map V.str := by unfold encL; rw [List.map_map]; rfl
theorem low_flat (ds : List (Fin 26)) : ((ds.map fun d => (⟨d, false⟩ : Lt)).flatMap fun x => [x, upLt x]) = lets ds := by
  unfold lets
  rw [List.flatMap_map]
  rfl
theorem flat2_len (r : Row) : (r.flatMap fun x => [x, upLt x]).length = 2 * r.length := by
  induction r with
  | nil => rfl
  | cons x r ih =>
    rw [List.flatMap_cons, List.length_append, ih]
    simp only [List.length_cons, List.length_nil]
    omega
theorem lS1 (x : Lt) : (lS x).length = 1 := rfl
section
variable {P : Program} {w : World} {K : PySem.W.Frag} {mg : Str → Option Value} {base : Heap}
def spLL : Sp := fun vs H Q _ => ∃ ds, vs = [.str (dS ds)] ∧ ds.length ≤ 26 ∧ ∀ p H', H p = none → Same H H' → H' p = some (.lst (encL (lets ds))) → Q (.ref p) H'
theorem ok__law_letters (T : Top K mg) : FnOk P w K mg base CX0 1 T.d__law_letters.f T.d__law_letters.d ["_law_deeds_here"] spLL := by
  refine T.d__law_letters.F.ok sc__law_letters (fun vs H Q E h => ?_) (fun cdv A outer s H vs Q E hr h => ?_)
  · obtain ⟨ds, rfl, _⟩ := h
    rfl
  · obtain ⟨ds, rfl, hds, q⟩ := h
    have hu := hu_of hr
    refine ⟨_,
      (pss_cons (ps_set (i := 1) sc__law_letters.nd rfl (Or.inl rfl) (pe_lst pa_nil))
      (pss_cons (ps_for PassesOwn.never rfl (pi_str (pv 0)) (pg_name (i := 2) sc__law_letters.nd rfl (Or.inl rfl))
      (pss_one (ps_set (i := 1) sc__law_letters.nd rfl (Or.inl rfl) (pe_op op_cat (pv 1) (pe_lst (pa_cons (pv 2) (pa_cons (pe_upper (pv 2)) pa_nil)))))))
      (pss_one (ps_ret (pv 1)))))
      , ?_⟩
    refine ⟨(by show 0 ≤ sizeLine; decide), fun d hd => ?_⟩
    refine ⟨_, rfl, _, rfl, for_row (r := ds.map fun d => (⟨d, false⟩ : Lt)) (fun pre σ H' => ∃ p v2, σ = [some (.str (dS ds)), some (.ref p), v2] ∧ Same H H' ∧ H p = none ∧ H' p = some (.lst (encL (pre.flatMap fun x => [x, upLt x])))) ⟨d, none, rfl, same_new hd, hd, upd_same⟩ ?_ ?_⟩
    · rintro pre x post σ H' e ⟨p, v2, rfl, s1, hp, gp⟩
      have hpl : pre.length < 26 := by
        have := congrArg List.length e
        simp at this
        omega
      refine ⟨_, rfl, _, rfl, _, rfl, ⟨_, rfl⟩, _, rfl, rfl, by show 1 ≤ _; decide, (by show 2 ≤ sizeLine; decide), fun k hk => ?_⟩
      refine ⟨p, k, _, _, rfl, rfl, same_new hk _ _ gp, upd_same, ?_, fun c hc => ?_⟩
      · show _ + 2 ≤ sizeLine
        have h1 := flat2_len pre
        have h2 : (encL (pre.flatMap fun x => [x, upLt x])).length + 2 < sizeLine := by
          unfold encL
          rw [List.length_map, h1]
          exact sz1M (by omega)
        omega
      · refine ⟨c, _, rfl, (s1.trans (same_new hk)).trans (same_new hc), (s1.trans (same_new hk)).free hc, ?_⟩
        rw [upd_same, upper_lt, List.flatMap_append]
        unfold encL
        rw [List.map_append]
        rfl
    · rintro σ H' ⟨p, v2, rfl, s1, hp, gp⟩
      rw [low_flat] at gp
      exact ⟨_, rfl, q p H' hp s1 gp⟩
def spFlip : Sp := fun vs H Q _ => ∃ x : Lt, vs = [.str (lS x)] ∧ Q (.str (lS x.inv)) H
theorem ok__law_flip (T : Top K mg) : FnOk P w K mg base CX0 1 T.d__law_flip.f T.d__law_flip.d ["_law_letter"] spFlip := by
  refine T.d__law_flip.F.ok sc__law_flip (fun vs H Q E h => ?_) (fun cdv A outer s H vs Q E hr h => ?_)
  · obtain ⟨x, rfl, _⟩ := h
    rfl
  · obtain ⟨x, rfl, q⟩ := h
    have hu := hu_of hr
    refine ⟨_,
      (pss_cons (ps_if (pt_cmpR op_eq (pv 0) (pe_lower (pv 0)) (nomark _))
      (pss_one (ps_ret (pe_upper (pv 0))))
      pss_nil)
      (pss_one (ps_ret (pe_lower (pv 0)))))
      , ?_⟩
    refine ⟨_, rfl, _, rfl, ⟨_, rfl⟩, _, rfl, rfl, by show 1 ≤ _; decide, rfl, _, rfl, ?_⟩
    rw [lower_lt]
    obtain ⟨d, u⟩ := x
    cases u with
    | true =>
      have e : decide (V.str (lS ⟨d, true⟩) = V.str (lS (lowLt ⟨d, true⟩))) = false := decide_eq_false fun z => by
        have := lS_inj (V.str.inj z)
        cases this
      rw [e]
      refine iteF ⟨_, rfl, ⟨_, rfl⟩, _, rfl, rfl, by show 1 ≤ _; decide, ?_⟩
      rw [lower_lt]
      exact q
    | false =>
      have e : decide (V.str (lS ⟨d, false⟩) = V.str (lS (lowLt ⟨d, false⟩))) = true := decide_eq_true rfl
      rw [e]
      refine iteT ⟨_, rfl, ⟨_, rfl⟩, _, rfl, rfl, by show 1 ≤ _; decide, ?_⟩
      rw [upper_lt]
      exact q
theorem ok__law_net (T : Top K mg) : FnOk P w K mg base CX0 2 T.d__law_net.f T.d__law_net.d ["_law_row"] spNet := by
  refine T.d__law_net.F.ok sc__law_net (fun vs H Q E h => ?_) (fun cdv A outer s H vs Q E hr h => ?_)
  · obtain ⟨r, rfl, _⟩ := h
    rfl
  · obtain ⟨r, rfl, hlen, q⟩ := h
    have hu := hu_of hr
    refine ⟨_,
      (pss_cons (ps_set (i := 1) sc__law_net.nd rfl (Or.inl rfl) (pe_lst pa_nil))
      (pss_cons (ps_for PassesOwn.never rfl (pi_str (pv 0)) (pg_name (i := 2) sc__law_net.nd rfl (Or.inl rfl))
      (pss_one (ps_if (PW.pt (pw_and (pt_cmpR op_gt (pe_callB call_len_seq (by rfl) T.z_len (by decide +kernel) (pa_cons (pv 1) pa_nil)) pe_int (nomark _)) (pw_and1 (pt_cmpR op_eq (pe_ix ix_list (pv 1) (pe_op op_sub (pe_callB call_len_seq (by rfl) T.z_len (by decide +kernel) (pa_cons (pv 1) pa_nil)) pe_int) (fun _ _ => rfl)) (pe_call (ok__law_flip T) (hr.mono (by decide)) (by rfl) T.d__law_flip.g T.d__law_flip.F.kp T.d__law_flip.b .nil pass0 (pa_cons (pv 2) pa_nil)) (nomark _)))))
      (pss_one (ps_expr (pe_bm0 PySem.F.plainAttrs_list PySem.F.slot_list_pop PySem.F.type_list_pop mt_pop (pv 1))))
      (pss_one (ps_expr (pe_bm PySem.F.plainAttrs_list PySem.F.slot_list_append PySem.F.type_list_append mt_append (pv 1) (pa_cons (pv 2) pa_nil)))))))
      (pss_one (ps_ret (pe_join pe_str (pv 1))))))
      , ?_⟩
    refine ⟨(by show 0 ≤ sizeLine; decide), fun d hd => ?_⟩
    have s1 : Same H (upd H d (.lst [])) := same_new hd
    refine ⟨_, rfl, _, rfl, for_row (r := r) (fun pre σ H' => ∃ v2, σ = [some (.str (rS r)), some (.ref d), v2] ∧ H' = upd H d (.lst (encL (run [] pre).reverse))) ⟨none, rfl, rfl⟩ ?_ ?_⟩
    · rintro pre x post σ H' e ⟨v2, rfl, rfl⟩
      have hpl : pre.length < r.length := by rw [e, List.length_append, List.length_cons]; omega
      have hkl : (run [] pre).length ≤ pre.length := by
        have := net_length_le pre
        unfold net at this
        rwa [List.length_reverse] at this
      have e1 : run [] (pre ++ [x]) = push (run [] pre) x := by rw [run_append]; rfl
      rw [e1]
      generalize run [] pre = k at hkl
      have gd : upd H d (.lst (encL k.reverse)) d = some (.lst (encL k.reverse)) := upd_same
      refine ⟨_, rfl, d, _, rfl, .inl (SqL.of gd), _, _, rfl, rfl, _, rfl, ?_⟩
      have eln : (((encL k.reverse).length : Nat) : Int) = (k.length : Nat) := by simp [encL]
      show if decide ((0 : Int) < (((encL k.reverse).length : Nat) : Int)) = true then _ else _
      rw [eln]
      have put : ∀ (k2 : Row), k2 = x :: k → ∀ ys : List V, ys = encL k.reverse ++ [.str (lS x)] → upd (upd H d (.lst (encL k.reverse))) d (.lst ys) = upd H d (.lst (encL k2.reverse)) := by
        intro k2 h1 ys h2
        rw [h1, h2, upd_upd]
        simp [encL]
      cases k with
      | nil =>
        refine iteF ?_
        refine iteF ?_
        refine ⟨_, rfl, .inl ⟨rfl, _, SqL.of gd⟩, _, rfl, d, _, _, rfl, rfl, gd, by simp [encL]; decide, ?_⟩
        exact ⟨_, rfl, put _ rfl _ rfl⟩
      | cons y k =>
        rw [decide_eq_true (show (0 : Int) < (((y :: k).length : Nat) : Int) by simp only [List.length_cons]; omega)]
        refine iteT ?_
        have gl2 : encL (y :: k).reverse = encL k.reverse ++ [.str (lS y)] := by simp [encL]
        have gl : atI (encL (y :: k).reverse) (((encL (y :: k).reverse).length : Nat) - 1) = some (.str (lS y)) := by
          have e : ((((encL (y :: k).reverse).length : Nat) : Int) - 1) = ((k.length : Nat) : Int) := by simp [encL]
          rw [e]
          refine atI_nat ?_
          rw [gl2, List.getElem?_append_right (by simp [encL])]
          simp [encL]
        refine ⟨_, rfl, _, rfl, d, _, rfl, .inl (SqL.of gd), _, _, rfl, rfl, d, _, _, _, rfl, rfl, SqL.of gd, gl, _, rfl, x, rfl, ?_⟩
        refine ⟨rfl, _, rfl, ?_⟩
        have ed : decide (V.str (lS y) = V.str (lS x.inv)) = decide (y = x.inv) := by
          by_cases h : y = x.inv
          · subst h
            simp
          · rw [decide_eq_false h]
            refine decide_eq_false fun z => h (lS_inj (V.str.inj z))
        rw [ed]
        by_cases h : y = x.inv
        · rw [decide_eq_true h]
          refine iteT ?_
          have hpush : push (y :: k) x = k := if_pos h
          refine ⟨_, rfl, .inl ⟨rfl, _, SqL.of gd⟩, d, _, .str (lS y), rfl, rfl, gd, by rw [gl2]; simp, ?_⟩
          refine ⟨_, rfl, ?_⟩
          rw [hpush, upd_upd, gl2, List.dropLast_concat]
        · rw [decide_eq_false h]
          refine iteF ?_
          have hpush : push (y :: k) x = x :: y :: k := if_neg h
          refine ⟨_, rfl, .inl ⟨rfl, _, SqL.of gd⟩, _, rfl, d, _, _, rfl, rfl, gd, sz1M (by simp only [encL, List.length_map, List.length_reverse]; omega), ?_⟩
          exact ⟨_, rfl, put _ hpush _ rfl⟩
    · rintro σ H' ⟨v2, rfl, rfl⟩
      refine ⟨⟨_, rfl⟩, _, rfl, Str.empty, d, (net r).map lS, rfl, rfl, .inl (SqL.of (by rw [upd_same, ← encL_map]; rfl)), ?_, ?_⟩
      · rw [sum_row, List.length_map]
        have := net_length_le r
        show _ + _ * 0 ≤ _
        omega
      · show Q (.str (Txt.join Str.empty ((net r).map lS))) _
        rw [join_row]
        exact q _ (same_new hd)
/-- rows undone: what the law's comprehension leaves, joined -/
theorem join_inv (r : Row) : Txt.join Str.empty ((r.reverse.map Lt.inv).map lS) = rS (invR r) := by
  rw [join_row]
  unfold invR
  rw [List.map_reverse]
def spUndone : Sp := fun vs H Q _ => ∃ r : Row, vs = [.str (rS r)] ∧ r.length ≤ 100000 ∧ ∀ H', Same H H' → Q (.str (rS (net (invR r)))) H'
theorem ok__law_undone (T : Top K mg) : FnOk P w K mg base CX0 3 T.d__law_undone.f T.d__law_undone.d ["_law_row"] spUndone := by
  refine T.d__law_undone.F.ok sc__law_undone (fun vs H Q E h => ?_) (fun cdv A outer s H vs Q E hr h => ?_)
  · obtain ⟨r, rfl, _⟩ := h
    rfl
  · obtain ⟨r, rfl, hlen, q⟩ := h
    have hu := hu_of hr
    refine ⟨_,
      (pss_one (ps_ret (pe_call (ok__law_net T) (hr.mono (by decide)) (by rfl) T.d__law_net.g T.d__law_net.F.kp T.d__law_net.b .nil pass0 (pa_cons (pe_join pe_str (pe_lc (own := [("_law_letter", 1)]) (g := (gName 1)) (tt := tYes) rfl sc__law_undone.nd (pi_str (pe_revS (pv 0))) (blkOk_by (N := N__law_undone) (sc := defScope s__law_undone) (by decide +kernel)) (fun _ _ _ _ _ => (pg_name (i := 1) sc__law_undone.nd rfl (Or.inl rfl))) (fun _ _ _ _ _ => pts_nil) (fun _ _ _ _ _ => (pe_call (ok__law_flip T) (hr.mono (by decide)) (by rfl) T.d__law_flip.g T.d__law_flip.F.kp T.d__law_flip.b .nil pass0 (pa_cons (pv 1) pa_nil))))) pa_nil))))
      , ?_⟩
    refine ⟨⟨_, rfl⟩, _, rfl, _, rfl, by rw [rS_len]; exact Nat.le_of_lt (sz1M (by omega)), ?_⟩
    rw [rev_row]
    refine ⟨_, rfl, fun D hD => ?_⟩
    refine lc_row (r := r.reverse) (fun pre H' => Same H H' ∧ H' D = some (.lst (encL (pre.map Lt.inv)))) ⟨same_new hD, upd_same⟩ ?_ ?_
    · rintro pre x post H' e ⟨s1, gd⟩
      have hpl : pre.length < 100000 := by
        have := congrArg List.length e
        simp at this
        omega
      refine ⟨rfl, yes_if ?_⟩
      refine ⟨_, rfl, x, rfl, _, gd, sz1M (by simp [encL]; omega), same_mut s1 hD, ?_⟩
      rw [upd_same]
      simp [encL]
    · rintro H' ⟨s1, gd⟩
      refine ⟨Str.empty, D, (r.reverse.map Lt.inv).map lS, rfl, rfl, .inl (SqL.of (by rw [gd, encL_map])), ?_, ?_⟩
      · rw [sum_row, List.length_map, List.length_map, List.length_reverse]
        show _ + _ * 0 ≤ _
        omega
      · rw [join_inv]
        exact ⟨invR r, rfl, by rw [invR_length]; omega, fun H2 s2 => q H2 (s1.trans s2)⟩
end
end Rb
/-! The law's own words and rows. -/
namespace Rb
set_option linter.all false
set_option maxRecDepth 100000
set_option maxHeartbeats 4000000
open PySem PySem.Spec PyProof.Rows L2
theorem cut_to (r : Row) (n : Nat) : cutS (rS r) none (some (n : Int)) = rS (r.take n) := by
  unfold cutS
  rw [HT.sIx_none, HT.sIx_nat, rS_len, rS_list, List.drop_zero, Nat.sub_zero]
  refine str_ext ?_
  rw [rS_list, List.map_take]
  show (r.map Lt.c).take (min n r.length) = _
  rw [← List.length_map (f := Lt.c), List.take_eq_take_iff]
  simp
theorem cut_from (r : Row) (n : Nat) : cutS (rS r) (some (n : Int)) none = rS (r.drop n) := by
  unfold cutS
  rw [HT.sIx_none, HT.sIx_nat, rS_len, rS_list]
  refine str_ext ?_
  rw [rS_list, List.map_drop]
  show ((r.map Lt.c).drop (min n r.length)).take (r.length - min n r.length) = _
  have e : ((r.map Lt.c).drop (min n r.length)).length = r.length - min n r.length := by rw [List.length_drop, List.length_map]
  rw [← e, List.take_length]
  by_cases h : n ≤ r.length
  · rw [Nat.min_eq_left h]
  · rw [Nat.min_eq_right (by omega), List.drop_eq_nil_of_le (by simp), List.drop_eq_nil_of_le (by simp; omega)]
theorem cutV_to {α : Type} (f : α → V) (xs : List α) (n : Nat) : cutV (xs.map f) none (some (n : Int)) = (xs.take n).map f := by
  unfold cutV
  rw [HT.sIx_none, HT.sIx_nat, List.drop_zero, Nat.sub_zero, List.map_take, List.take_eq_take_iff]
  simp
theorem cutV_from {α : Type} (f : α → V) (xs : List α) (n : Nat) : cutV (xs.map f) (some (n : Int)) none = (xs.drop n).map f := by
  unfold cutV
  rw [HT.sIx_none, HT.sIx_nat]
  have e : ((xs.map f).drop (min n (xs.map f).length)).length = (xs.map f).length - min n (xs.map f).length := by rw [List.length_drop]
  rw [← e, List.take_length, List.map_drop]
  by_cases h : n ≤ (xs.map f).length
  · rw [Nat.min_eq_left h]
  · rw [Nat.min_eq_right (by omega), List.drop_eq_nil_of_le (by simp), List.drop_eq_nil_of_le (by simp at h ⊢; omega)]
theorem OverD.app {ds : List (Fin 26)} {a b : Row} (h : OverD ds a) (k : OverD ds b) : OverD ds (a ++ b) := fun x hx => (List.mem_append.mp hx).elim (h x) (k x)
theorem OverD.take {ds : List (Fin 26)} {a : Row} (h : OverD ds a) (n : Nat) : OverD ds (a.take n) := fun x hx => h x (List.mem_of_mem_take hx)
theorem OverD.drop {ds : List (Fin 26)} {a : Row} (h : OverD ds a) (n : Nat) : OverD ds (a.drop n) := fun x hx => h x (List.mem_of_mem_drop hx)
theorem OverD.inv {ds : List (Fin 26)} {a : Row} (h : OverD ds a) : OverD ds (invR a) := fun x hx => by
  unfold invR at hx
  rw [List.mem_reverse] at hx
  obtain ⟨y, hy, rfl⟩ := List.mem_map.mp hx
  exact lets_inv (h y hy)
theorem OverD.net {ds : List (Fin 26)} {a : Row} (h : OverD ds a) : OverD ds (net a) := fun x hx => h x (mem_net hx)
/-- rows to make a web of -/
def RowsOk (ds : List (Fin 26)) (rs : List Row) (m : Nat) : Prop := ∀ r ∈ rs, OverD ds r ∧ r.length ≤ m
theorem PoolAt.put {H : Hp} {a g D : Addr} {o : HO} (h : PoolAt H a g) (hD : D ∉ [a, g]) : PoolAt (upd H D o) a g := by
  obtain ⟨n, sd, ct, gs, h1, h2⟩ := h
  exact ⟨n, sd, ct, gs, by rw [upd_ne (fun z => hD (by rw [z]; simp))]; exact h1, by rw [upd_ne (fun z => hD (by rw [z]; simp))]; exact h2⟩
theorem PoolAt.out {H : Hp} {a g D : Addr} (h : PoolAt H a g) (hD : H D = none) : D ∉ [a, g] := fun z => by
  have := h.mut D z
  rw [hD] at this
  exact this
section
variable {P : Program} {w : World} {K : PySem.W.Frag} {mg : Str → Option Value} {base : Heap}
def spWord : Sp := fun vs H Q _ => ∃ (a g : Addr) (ds : List (Fin 26)) (m : Nat), vs = [.ref a, .str (dS ds), .int m] ∧ PoolAt H a g ∧ 1 ≤ ds.length ∧ ds.length ≤ 26 ∧ m ≤ 1000 ∧ ∀ r H', OverD ds r → r.length ≤ m → PoolAt H' a g → Upto [a, g] H H' → Q (.str (rS r)) H'
theorem ok__law_word (T : Top K mg) : FnOk P w K mg base CX0 2 T.d__law_word.f T.d__law_word.d ["_law_pool_here", "_law_deeds_here", "_law_most"] spWord := by
  refine T.d__law_word.F.ok sc__law_word (fun vs H Q E h => ?_) (fun cdv A outer s H vs Q E hr h => ?_)
  · obtain ⟨a, g, ds, m, rfl, _⟩ := h
    rfl
  · obtain ⟨a, g, ds, m, rfl, hP, hd1, hd2, hm, q⟩ := h
    have hu := hu_of hr
    refine ⟨_,
      (pss_cons (ps_set (i := 3) sc__law_word.nd rfl (Or.inr rfl) (pe_call (ok__law_letters T) (hr.mono (by decide)) (by rfl) T.d__law_letters.g T.d__law_letters.F.kp T.d__law_letters.b .nil pass0 (pa_cons (pv 1) pa_nil)))
      (pss_one (ps_ret (pe_join pe_str (pe_lc (own := [("_law_k", 4)]) (g := (gName 4)) (tt := tYes) rfl sc__law_word.nd (pi_range1 (by rfl) T.z_range (pa_cons (pe_call (ok__law_draw T) (hr.mono (by decide)) (by rfl) T.d__law_draw.g T.d__law_draw.F.kp T.d__law_draw.b .nil pass0 (pa_cons (pv 0) (pa_cons (pe_op op_add (pv 2) pe_int) pa_nil))) pa_nil)) (blkOk_by (N := N__law_word) (sc := defScope s__law_word) (by decide +kernel)) (fun _ _ _ _ _ => (pg_name (i := 4) sc__law_word.nd rfl (Or.inl rfl))) (fun _ _ _ _ _ => pts_nil) (fun _ _ _ _ _ => (pe_ix (ix_listK (K := K) rfl) (pv 3) (pe_call (ok__law_draw T) (hr.mono (by decide)) (by rfl) T.d__law_draw.g T.d__law_draw.F.kp T.d__law_draw.b .nil pass0 (pa_cons (pv 0) (pa_cons (pe_callB (call_len_seqK (K := K) rfl) (by rfl) T.z_len (by decide +kernel) (pa_cons (pv 3) pa_nil)) pa_nil))) (fun _ _ => rfl))))))))
      , ?_⟩
    refine ⟨_, rfl, ds, rfl, hd2, fun p H1 hp s1 gp => ?_⟩
    have hP1 := hP.same s1
    have pn : p ∉ [a, g] := hP.out hp
    refine ⟨⟨_, rfl⟩, _, rfl, _, rfl, _, _, rfl, rfl, a, g, m + 1, ?_, hP1, by omega, by omega, fun n H2 hn hP2 u2 => ?_⟩
    · show [V.ref a, V.int ((m : Int) + 1)] ++ [] = _
      rfl
    have gp2 := u2 _ _ gp pn
    refine ⟨n, rfl, by omega, by omega, fun D hD => ?_⟩
    have Dn : D ∉ [a, g] := hP2.out hD
    refine lc_range (lo := 0) (n := n) (fun i H' => ∃ r : Row, r.length = i ∧ OverD ds r ∧ PoolAt H' a g ∧ Upto [a, g] H2 H' ∧ H' D = some (.lst (encL r)) ∧ H' p = some (.lst (encL (lets ds))))
      ⟨[], rfl, fun x hx => by simp at hx, hP2.same (same_new hD), upto_new (Upto.refl _ _) hD, upd_same, by rw [upd_ne (ne_of_none gp2 hD)]; exact gp2⟩ ?_ ?_
    · rintro i H3 hi ⟨r, rfl, ho, hP3, u3, gD, gp3⟩
      refine ⟨rfl, yes_if ?_⟩
      have hll : (encL (lets ds)).length = 2 * ds.length := by unfold encL; rw [List.length_map, lets_len]
      refine ⟨_, rfl, _, rfl, _, rfl, p, _, rfl, .inl (SqL.of gp3), a, g, 2 * ds.length, by rw [hll]; rfl, hP3, by omega, by omega, fun d H4 hd hP4 u4 => ?_⟩
      have gp4 := u4 _ _ gp3 pn
      have hdl : d < (lets ds).length := by rw [lets_len]; exact hd
      have gat : atI (encL (lets ds)) (d : Int) = some (.str (lS (lets ds)[d])) := atI_nat (by unfold encL; rw [List.getElem?_map, List.getElem?_eq_getElem hdl]; rfl)
      refine ⟨p, _, _, _, rfl, rfl, SqL.of gp4, gat, ?_⟩
      have gD4 := u4 _ _ gD Dn
      have DnP : D ≠ p := (ne_of_none gp2 hD).symm
      refine ⟨_, gD4, sz1M (by simp [encL]; omega), r ++ [(lets ds)[d]], by simp, ho.app (fun x hx => by rw [List.mem_singleton.mp hx]; exact List.getElem_mem hdl), hP4.put Dn, upto_new (u3.trans u4) hD, ?_, by rw [upd_ne DnP.symm]; exact gp4⟩
      rw [upd_same]
      simp [encL]
    · rintro H3 ⟨r, hrl, ho, hP3, u3, gD, gp3⟩
      refine ⟨Str.empty, D, r.map lS, rfl, rfl, .inl (SqL.of (by rw [gD, encL_map])), ?_, ?_⟩
      · rw [sum_row, List.length_map]
        show _ + _ * 0 ≤ _
        omega
      · rw [join_row]
        refine q r H3 ho (by omega) hP3 ?_
        intro b o hb hn
        exact u3 _ _ (u2 _ _ (s1 _ _ hb) hn) hn
def spRows : Sp := fun vs H Q _ => ∃ (a g : Addr) (ds : List (Fin 26)) (n m : Nat), vs = [.ref a, .str (dS ds), .int n, .int m] ∧ PoolAt H a g ∧ 1 ≤ ds.length ∧ ds.length ≤ 26 ∧ n ≤ 1000 ∧ m ≤ 1000 ∧
  ∀ p rs H', H p = none → rs.length ≤ n → RowsOk ds rs m → PoolAt H' a g → Upto [a, g] H H' → H' p = some (.lst (encR rs)) → Q (.ref p) H'
theorem ok__law_rows (T : Top K mg) : FnOk P w K mg base CX0 4 T.d__law_rows.f T.d__law_rows.d ["_law_pool_here", "_law_deeds_here", "_law_most", "_law_longest"] spRows := by
  refine T.d__law_rows.F.ok sc__law_rows (fun vs H Q E h => ?_) (fun cdv A outer s H vs Q E hr h => ?_)
  · obtain ⟨a, g, ds, n, m, rfl, _⟩ := h
    rfl
  · obtain ⟨a, g, ds, n, m, rfl, hP, hd1, hd2, hn, hm, q⟩ := h
    have hu := hu_of hr
    refine ⟨_,
      (pss_cons (ps_set (i := 4) sc__law_rows.nd rfl (Or.inl rfl) (pe_lst pa_nil))
      (pss_cons (ps_for PassesOwn.never rfl (pi_range1 (by rfl) T.z_range (pa_cons (pe_call (ok__law_draw T) (hr.mono (by decide)) (by rfl) T.d__law_draw.g T.d__law_draw.F.kp T.d__law_draw.b .nil pass0 (pa_cons (pv 0) (pa_cons (pe_op op_add (pv 2) pe_int) pa_nil))) pa_nil)) (pg_name (i := 5) sc__law_rows.nd rfl (Or.inl rfl))
      (pss_cons (ps_set (i := 6) sc__law_rows.nd rfl (Or.inl rfl) (pe_call (ok__law_draw T) (hr.mono (by decide)) (by rfl) T.d__law_draw.g T.d__law_draw.F.kp T.d__law_draw.b .nil pass0 (pa_cons (pv 0) (pa_cons pe_int pa_nil))))
      (pss_cons (ps_set (i := 7) sc__law_rows.nd rfl (Or.inl rfl) (pe_call (ok__law_word T) (hr.mono (by decide)) (by rfl) T.d__law_word.g T.d__law_word.F.kp T.d__law_word.b .nil pass0 (pa_cons (pv 0) (pa_cons (pv 1) (pa_cons (pv 3) pa_nil)))))
      (C8.pss_cut (ps_if (PW.pt (pw_and (pt_cmpR op_eq (pv 6) pe_int (nomark _)) (pw_and1 (pt_cmpR op_gt (pe_callB call_len_seq (by rfl) T.z_len (by decide +kernel) (pa_cons (pv 4) pa_nil)) pe_int (nomark _)))))
      (pss_one (ps_set (i := 7) sc__law_rows.nd rfl (Or.inl rfl) (pe_slice sl_str (pe_op op_add_str (pe_slice sl_str (pe_ix ix_list (pv 4) (pe_call (ok__law_draw T) (hr.mono (by decide)) (by rfl) T.d__law_draw.g T.d__law_draw.F.kp T.d__law_draw.b .nil pass0 (pa_cons (pv 0) (pa_cons (pe_callB call_len_seq (by rfl) T.z_len (by decide +kernel) (pa_cons (pv 4) pa_nil)) pa_nil))) (fun _ _ => rfl)) po_none (po_some pe_int)) (pv 7)) po_none (po_some (pv 3)))))
      pss_nil)
      (C8.pss_cut (ps_if (pt_cmpR op_eq (pv 6) pe_int (nomark _))
      (pss_one (ps_set (i := 7) sc__law_rows.nd rfl (Or.inl rfl) (pe_slice sl_str (pe_op op_repS (pe_slice sl_str (pv 7) po_none (po_some pe_int)) pe_int) po_none (po_some (pv 3)))))
      pss_nil)
      (C8.pss_cut (ps_if (pt_cmpR op_eq (pv 6) pe_int (nomark _))
      (pss_cons (ps_set (i := 7) sc__law_rows.nd rfl (Or.inl rfl) (pe_slice sl_str (pv 7) po_none (po_some (pe_op op_fdivN (pv 3) pe_int))))
      (pss_one (ps_set (i := 7) sc__law_rows.nd rfl (Or.inl rfl) (pe_op op_add_str (pe_op op_add_str (pv 7) (pe_call (ok__law_word T) (hr.mono (by decide)) (by rfl) T.d__law_word.g T.d__law_word.F.kp T.d__law_word.b .nil pass0 (pa_cons (pv 0) (pa_cons (pv 1) (pa_cons (pe_op op_sub (pv 3) (pe_op op_mul pe_int (pe_callB call_len_str (by rfl) T.z_len (by decide +kernel) (pa_cons (pv 7) pa_nil)))) pa_nil))))) (pe_call (ok__law_undone T) (hr.mono (by decide)) (by rfl) T.d__law_undone.g T.d__law_undone.F.kp T.d__law_undone.b .nil pass0 (pa_cons (pv 7) pa_nil))))))
      pss_nil)
      (pss_one (ps_expr (pe_bm PySem.F.plainAttrs_list PySem.F.slot_list_append PySem.F.type_list_append mt_append (pv 4) (pa_cons (pv 7) pa_nil))))))))))
      (pss_one (ps_ret (pv 4)))))
      , ?_⟩
    refine ⟨(by show 0 ≤ sizeLine; decide), fun p hp => ?_⟩
    have pn : p ∉ [a, g] := hP.out hp
    have u1 : Upto [a, g] H (upd H p (.lst [])) := upto_new (Upto.refl _ _) hp
    refine ⟨_, rfl, _, rfl, _, _, rfl, rfl, a, g, n + 1, rfl, hP.put pn, by omega, by omega, fun c H2 hc hP2 u2 => ?_⟩
    refine ⟨c, rfl, by omega, by omega, ?_⟩
    refine for_range (lo := 0) (n := c) (fun i σ H' => ∃ v5 v6 v7 rs, σ = [some (.ref a), some (.str (dS ds)), some (.int n), some (.int m), some (.ref p), v5, v6, v7] ∧ rs.length = i ∧ RowsOk ds rs m ∧ PoolAt H' a g ∧ Upto [a, g] H H' ∧ H' p = some (.lst (encR rs)))
      ⟨none, none, none, [], rfl, rfl, fun r hr => by simp at hr, hP2, u1.trans u2, u2 _ _ upd_same pn⟩ ?_ ?_
    · rintro i σ H3 hi ⟨v5, v6, v7, rs, rfl, hrl, hro, hP3, u3, gp3⟩
      have hil : i < 1001 := by omega
      have enl : (encR rs).length = rs.length := List.length_map _
      refine ⟨_, rfl, a, g, 6, rfl, hP3, by omega, by omega, fun kd H4 hkd hP4 u4 => ?_⟩
      refine ⟨_, rfl, _, rfl, _, rfl, a, g, ds, m, rfl, hP4, hd1, hd2, hm, fun r H5 ho hrm hP5 u5 => ?_⟩
      have gp5 := u5 _ _ (u4 _ _ gp3 pn) pn
      have u35 := (u3.trans u4).trans u5
      refine ⟨fun σ H' => ∃ r : Row, σ = [some (.ref a), some (.str (dS ds)), some (.int n), some (.int m), some (.ref p), some (.int (0 + (i : Nat))), some (.int kd), some (.str (rS r))] ∧ OverD ds r ∧ r.length ≤ m ∧ PoolAt H' a g ∧ Upto [a, g] H H' ∧ H' p = some (.lst (encR rs)), ?_, ?_⟩
      · refine ⟨_, rfl, rfl, _, rfl, ?_⟩
        refine ite2 (fun h => ?_) (fun h => ?_)
        · refine ⟨_, rfl, p, _, rfl, .inl (SqL.of gp5), _, _, rfl, rfl, _, rfl, ?_⟩
          refine ite2 (fun h2 => ?_) (fun h2 => ?_)
          · have h3 : 0 < rs.length := by
              have := of_decide_eq_true h2
              rw [enl] at this
              omega
            refine ⟨_, rfl, _, rfl, _, rfl, p, _, rfl, .inl (SqL.of gp5), a, g, rs.length, by rw [enl]; rfl, hP5, h3, by omega, fun j H6 hj hP6 u6 => ?_⟩
            have gp6 := u6 _ _ gp5 pn
            have gat : atI (encR rs) (j : Int) = some (.str (rS rs[j])) := atI_nat (by unfold encR; rw [List.getElem?_map, List.getElem?_eq_getElem hj]; rfl)
            obtain ⟨o1, o2⟩ := hro rs[j] (List.getElem_mem hj)
            refine ⟨p, _, _, _, rfl, rfl, SqL.of gp6, gat, 4, rfl, _, rfl, by rw [rS_len]; exact Nat.le_of_lt (sz1M (by omega)), ?_⟩
            rw [show cutS (rS rs[j]) none (some 4) = rS (rs[j].take 4) from cut_to _ 4]
            refine ⟨_, rfl, _, _, rfl, rfl, ?_, ?_⟩
            · rw [rS_len, rS_len, List.length_take]
              have : min 4 rs[j].length + r.length < sizeLine := sz1M (by omega)
              omega
            rw [rS_append]
            refine ⟨_, rfl, m, rfl, _, rfl, ?_, ?_⟩
            · rw [rS_len, List.length_append, List.length_take]
              exact Nat.le_of_lt (sz1M (by omega))
            rw [cut_to]
            exact ⟨_, rfl, ((o1.take 4).app ho).take m, by rw [List.length_take]; omega, hP6, u35.trans u6, gp6⟩
          · exact ⟨r, rfl, ho, hrm, hP5, u35, gp5⟩
        · exact iteF ⟨r, rfl, ho, hrm, hP5, u35, gp5⟩
      · rintro σ H6 ⟨r, rfl, ho, hrm, hP6, u6, gp6⟩
        refine ⟨fun σ H' => ∃ r : Row, σ = [some (.ref a), some (.str (dS ds)), some (.int n), some (.int m), some (.ref p), some (.int (0 + (i : Nat))), some (.int kd), some (.str (rS r))] ∧ OverD ds r ∧ r.length ≤ m ∧ PoolAt H' a g ∧ Upto [a, g] H H' ∧ H' p = some (.lst (encR rs)), ?_, ?_⟩
        · refine ⟨_, rfl, rfl, _, rfl, ?_⟩
          refine ite2 (fun h => ?_) (fun h => ?_)
          · refine ⟨_, rfl, 3, rfl, _, rfl, by rw [rS_len]; exact Nat.le_of_lt (sz1M (by omega)), ?_⟩
            rw [show cutS (rS r) none (some 3) = rS (r.take 3) from cut_to _ 3]
            have h4 : (List.replicate 4 (r.take 3)).flatten.length ≤ 12 := by
              simp only [List.length_flatten, List.map_replicate, List.sum_replicate_nat, List.length_take]
              omega
            refine ⟨r.take 3, 4, rfl, rfl, by omega, by rw [List.length_take]; omega, _, rfl, m, rfl, _, rfl, by rw [rS_len]; exact Nat.le_of_lt (sz1M (by omega)), ?_⟩
            rw [cut_to]
            refine ⟨_, rfl, OverD.take (fun x hx => ?_) m, by rw [List.length_take]; omega, hP6, u6, gp6⟩
            obtain ⟨l, hl, hx⟩ := List.mem_flatten.mp hx
            rw [(List.mem_replicate.mp hl).2] at hx
            exact (ho.take 3) x hx
          · exact ⟨r, rfl, ho, hrm, hP6, u6, gp6⟩
        · rintro σ H7 ⟨r, rfl, ho, hrm, hP7, u7, gp7⟩
          refine ⟨fun σ H' => ∃ r : Row, σ = [some (.ref a), some (.str (dS ds)), some (.int n), some (.int m), some (.ref p), some (.int (0 + (i : Nat))), some (.int kd), some (.str (rS r))] ∧ OverD ds r ∧ r.length ≤ m ∧ PoolAt H' a g ∧ Upto [a, g] H H' ∧ H' p = some (.lst (encR rs)), ?_, ?_⟩
          · refine ⟨_, rfl, rfl, _, rfl, ?_⟩
            refine ite2 (fun h => ?_) (fun h => ?_)
            · refine ⟨_, rfl, _, rfl, _, _, rfl, rfl, ⟨by decide, by decide⟩, (m : Int).fdiv 3, rfl, _, rfl, by rw [rS_len]; exact Nat.le_of_lt (sz1M (by omega)), ?_⟩
              have e3 : (m : Int).fdiv 3 = ((m / 3 : Nat) : Int) := by rw [Int.fdiv_eq_ediv_of_nonneg _ (by decide)]; omega
              rw [e3, cut_to]
              have hl1 : (r.take (m / 3)).length ≤ m / 3 := by rw [List.length_take]; omega
              have ho1 := ho.take (m / 3)
              generalize r.take (m / 3) = r1 at hl1 ho1
              refine ⟨_, rfl, _, rfl, _, rfl, _, rfl, _, rfl, _, rfl, by rw [rS_len]; exact Nat.le_of_lt (sz1M (by omega)), _, _, rfl, rfl, .inl ⟨by decide, by decide⟩, _, _, rfl, rfl, a, g, ds, m - 2 * r1.length, ?_, hP7, hd1, hd2, by omega, fun r2 H8 ho2 hl2 hP8 u8 => ?_⟩
              · show [V.ref a, V.str (dS ds), V.int ((m : Int) - 2 * ((rS r1).length : Nat))] ++ [] = _
                rw [rS_len]
                have : ((m : Int) - 2 * (r1.length : Nat)) = ((m - 2 * r1.length : Nat) : Int) := by omega
                rw [this]
                rfl
              have gp8 := u8 _ _ gp7 pn
              refine ⟨_, _, rfl, rfl, by rw [rS_len, rS_len]; exact Nat.le_of_lt (sz1M (by omega)), _, rfl, r1, rfl, by omega, fun H9 s9 => ?_⟩
              have hn := net_length_le (invR r1)
              rw [invR_length] at hn
              rw [rS_append]
              refine ⟨_, _, rfl, rfl, by rw [rS_len, rS_len, List.length_append]; exact Nat.le_of_lt (sz1M (by omega)), ?_⟩
              rw [rS_append]
              exact ⟨_, rfl, (ho1.app ho2).app ho1.inv.net, by rw [List.length_append, List.length_append]; omega, hP8.same s9, (u7.trans u8).trans (Upto.of s9), s9 _ _ gp8⟩
            · exact ⟨r, rfl, ho, hrm, hP7, u7, gp7⟩
          · rintro σ H8 ⟨r, rfl, ho, hrm, hP8, u8, gp8⟩
            refine ⟨_, rfl, .inl ⟨rfl, _, SqL.of gp8⟩, _, rfl, p, _, _, rfl, rfl, gp8, sz1M (by omega), ?_⟩
            refine ⟨_, _, _, rs ++ [r], rfl, by simp [hrl], ?_, hP8.put pn, upto_new u8 hp, by rw [upd_same]; simp [encR]⟩
            intro r' hr'
            rcases List.mem_append.mp hr' with h | h
            · exact hro r' h
            · rw [List.mem_singleton.mp h]
              exact ⟨ho, hrm⟩
    · rintro σ H3 ⟨v5, v6, v7, rs, rfl, hrl, hro, hP3, u3, gp3⟩
      exact ⟨_, rfl, q p rs H3 hp (by omega) hro hP3 u3 gp3⟩
end
end Rb
/-! The law's own rows, told otherwise. -/
namespace Rb
set_option linter.all false
set_option maxRecDepth 100000
set_option maxHeartbeats 4000000
open PySem PySem.Spec PyProof.Rows L2
section
variable {P : Program} {w : World} {K : PySem.W.Frag} {mg : Str → Option Value} {base : Heap}
def spTold (K : PySem.W.Frag) : Sp := fun vs H Q _ => ∃ (a g b : Addr) (rs : List Row), vs = [.ref a, .ref b] ∧ PoolAt H a g ∧ H b = some (.lst (encR rs)) ∧ b ∉ [a, g] ∧ ∀ p H', H p = none → PoolAt H' a g → Upto [a, g] H H' → RowsAt K H' p rs → Q (.ref p) H'
theorem ok__law_listed (T : Top K mg) : FnOk P w K mg base CX0 2 T.d__law_listed.f T.d__law_listed.d ["_law_pool_here", "_law_things"] (spTold K) := by
  refine T.d__law_listed.F.ok sc__law_listed (fun vs H Q E h => ?_) (fun cdv A outer s H vs Q E hr h => ?_)
  · obtain ⟨a, g, b, rs, rfl, _⟩ := h
    rfl
  · obtain ⟨a, g, b, rs, rfl, hP, hb, hbn, q⟩ := h
    have hu := hu_of hr
    refine ⟨_,
      (pss_cons (ps_if (pt_cmpR op_eq (pe_call (ok__law_draw T) (hr.mono (by decide)) (by rfl) T.d__law_draw.g T.d__law_draw.F.kp T.d__law_draw.b .nil pass0 (pa_cons (pv 0) (pa_cons pe_int pa_nil))) pe_int (nomark _))
      (pss_one (ps_ret (pe_callTy call_list_of (by rfl) T.z_list (by decide +kernel) (pa_cons (pv 1) pa_nil))))
      pss_nil)
      (pss_one (ps_ret (pe_callTy call_tuple_of (by rfl) T.z_tuple (by decide +kernel) (pa_cons (pv 1) pa_nil)))))
      , ?_⟩
    refine ⟨_, rfl, a, g, 2, rfl, hP, by omega, by omega, fun d H1 hd hP1 u1 => ?_⟩
    have gb := u1 _ _ hb hbn
    have fr : ∀ c, H1 c = none → H c = none := fun c hc => upto_free u1 (fun b hb _ => by
      intro z
      have := hP1.mut b hb
      rw [z] at this
      exact this) hc
    refine ⟨rfl, _, rfl, ?_⟩
    refine ite2 (fun h => ?_) (fun h => ?_)
    · refine ⟨_, rfl, b, _, rfl, .inl (SqL.of gb), fun l hl => ?_⟩
      exact q l _ (fr l hl) (hP1.put (hP1.out hl)) (upto_new u1 (fr l hl)) (.inl upd_same)
    · refine ⟨_, rfl, b, _, rfl, .inl ⟨SqL.of gb, fun l hl => ?_⟩⟩
      exact q l _ (fr l hl) (hP1.put (hP1.out hl)) (upto_new u1 (fr l hl)) (.inr upd_same)
def spProd : Sp := fun vs H Q _ => ∃ (a g b : Addr) (ds : List (Fin 26)) (rs : List Row) (n : Nat), vs = [.ref a, .ref b, .int n] ∧ PoolAt H a g ∧ H b = some (.lst (encR rs)) ∧ b ∉ [a, g] ∧ RowsOk ds rs 12 ∧ rs.length ≤ 100 ∧ n ≤ 100 ∧
  ∀ r H', PoolAt H' a g → Upto [a, g] H H' → OverD ds r → r.length ≤ 12 * n → Gen rs r → Q (.str (rS r)) H'
theorem ok__law_product (T : Top K mg) : FnOk P w K mg base CX0 2 T.d__law_product.f T.d__law_product.d ["_law_pool_here", "_law_rows_here", "_law_most"] spProd := by
  refine T.d__law_product.F.ok sc__law_product (fun vs H Q E h => ?_) (fun cdv A outer s H vs Q E hr h => ?_)
  · obtain ⟨a, g, b, ds, rs, n, rfl, _⟩ := h
    rfl
  · obtain ⟨a, g, b, ds, rs, n, rfl, hP, hb, hbn, hro, hrl, hn, q⟩ := h
    have hu := hu_of hr
    refine ⟨_,
      (pss_cons (ps_set (i := 3) sc__law_product.nd rfl (Or.inl rfl) pe_str)
      (pss_cons (ps_for PassesOwn.never rfl (pi_range1 (by rfl) T.z_range (pa_cons (pe_call (ok__law_draw T) (hr.mono (by decide)) (by rfl) T.d__law_draw.g T.d__law_draw.F.kp T.d__law_draw.b .nil pass0 (pa_cons (pv 0) (pa_cons (pe_op op_add (pv 2) pe_int) pa_nil))) pa_nil)) (pg_name (i := 4) sc__law_product.nd rfl (Or.inl rfl))
      (pss_one (ps_if (pt_cmpR op_gt (pe_callB call_len_seq (by rfl) T.z_len (by decide +kernel) (pa_cons (pv 1) pa_nil)) pe_int (nomark _))
      (pss_cons (ps_set (i := 5) sc__law_product.nd rfl (Or.inl rfl) (pe_ix ix_list (pv 1) (pe_call (ok__law_draw T) (hr.mono (by decide)) (by rfl) T.d__law_draw.g T.d__law_draw.F.kp T.d__law_draw.b .nil pass0 (pa_cons (pv 0) (pa_cons (pe_callB call_len_seq (by rfl) T.z_len (by decide +kernel) (pa_cons (pv 1) pa_nil)) pa_nil))) (fun _ _ => rfl)))
      (C8.pss_cut (ps_if (pt_cmpR op_eq (pe_call (ok__law_draw T) (hr.mono (by decide)) (by rfl) T.d__law_draw.g T.d__law_draw.F.kp T.d__law_draw.b .nil pass0 (pa_cons (pv 0) (pa_cons pe_int pa_nil))) pe_int (nomark _))
      (pss_one (ps_set (i := 5) sc__law_product.nd rfl (Or.inl rfl) (pe_join pe_str (pe_lc (own := [("_law_letter", 6)]) (g := (gName 6)) (tt := tYes) rfl sc__law_product.nd (pi_str (pe_revS (pv 5))) (blkOk_by (N := N__law_product) (sc := defScope s__law_product) (by decide +kernel)) (fun _ _ _ _ _ => (pg_name (i := 6) sc__law_product.nd rfl (Or.inl rfl))) (fun _ _ _ _ _ => pts_nil) (fun _ _ _ _ _ => (pe_call (ok__law_flip T) (hr.mono (by decide)) (by rfl) T.d__law_flip.g T.d__law_flip.F.kp T.d__law_flip.b .nil pass0 (pa_cons (pv 6) pa_nil)))))))
      pss_nil)
      (pss_one (ps_set (i := 3) sc__law_product.nd rfl (Or.inl rfl) (pe_op op_add_str (pv 3) (pv 5))))))
      pss_nil)))
      (pss_one (ps_ret (pv 3)))))
      , ?_⟩
    have enl : (encR rs).length = rs.length := List.length_map _
    refine ⟨_, rfl, _, rfl, _, _, rfl, rfl, a, g, n + 1, rfl, hP, by omega, by omega, fun c H1 hc hP1 u1 => ?_⟩
    refine ⟨c, rfl, by omega, by omega, ?_⟩
    refine for_range (lo := 0) (n := c) (fun i σ H' => ∃ v4 v5 r v6, σ = [some (.ref a), some (.ref b), some (.int n), some (.str (rS r)), v4, v5, v6] ∧ PoolAt H' a g ∧ Upto [a, g] H H' ∧ OverD ds r ∧ r.length ≤ 12 * i ∧ Gen rs r)
      ⟨none, none, [], none, rfl, hP1, u1, fun x hx => by simp at hx, by simp, .nil⟩ ?_ ?_
    · rintro i σ H2 hi ⟨v4, v5, r, v6, rfl, hP2, u2, ho, hl, hg⟩
      have gb := u2 _ _ hb hbn
      refine ⟨_, rfl, b, _, rfl, .inl (SqL.of gb), _, _, rfl, rfl, _, rfl, ?_⟩
      refine ite2 (fun h => ?_) (fun h => ?_)
      · have h3 : 0 < rs.length := by
          have := of_decide_eq_true h
          rw [enl] at this
          omega
        refine ⟨_, rfl, _, rfl, _, rfl, b, _, rfl, .inl (SqL.of gb), a, g, rs.length, by rw [enl]; rfl, hP2, h3, by omega, fun j H3 hj hP3 u3 => ?_⟩
        have gb3 := u3 _ _ gb hbn
        have gat : atI (encR rs) (j : Int) = some (.str (rS rs[j])) := atI_nat (by unfold encR; rw [List.getElem?_map, List.getElem?_eq_getElem hj]; rfl)
        obtain ⟨o1, o2⟩ := hro rs[j] (List.getElem_mem hj)
        have om : rs[j] ∈ rs := List.getElem_mem hj
        refine ⟨b, _, _, _, rfl, rfl, SqL.of gb3, gat, ?_⟩
        generalize rs[j] = y at o1 o2 om
        refine ⟨fun σ H' => ∃ (z : Row) (v6 : Option V), σ = [some (.ref a), some (.ref b), some (.int n), some (.str (rS r)), some (.int (0 + (i : Nat))), some (.str (rS z)), v6] ∧ PoolAt H' a g ∧ Upto [a, g] H H' ∧ OverD ds z ∧ z.length ≤ 12 ∧ Gen rs z, ?_, ?_⟩
        · refine ⟨_, rfl, a, g, 2, rfl, hP3, by omega, by omega, fun d H4 hd hP4 u4 => ?_⟩
          refine ⟨rfl, _, rfl, ?_⟩
          have u34 := (u2.trans u3).trans u4
          refine ite2 (fun h => ?_) (fun h => ?_)
          · refine ⟨⟨_, rfl⟩, _, rfl, _, rfl, by rw [rS_len]; exact Nat.le_of_lt (sz1M (by omega)), ?_⟩
            rw [rev_row]
            refine ⟨_, rfl, fun D hD => ?_⟩
            have Dn := hP4.out hD
            have fr : H D = none := upto_free u34 (fun b hb _ => by
              intro z
              have := hP4.mut b hb
              rw [z] at this
              exact this) hD
            refine lc_row (r := y.reverse) (fun pre H' => PoolAt H' a g ∧ Upto [a, g] H H' ∧ H' D = some (.lst (encL (pre.map Lt.inv)))) ⟨hP4.put Dn, upto_new u34 fr, upd_same⟩ ?_ ?_
            · rintro pre x post H' e ⟨p1, p2, gd⟩
              have hpl : pre.length < 100000 := by
                have := congrArg List.length e
                simp at this
                omega
              refine ⟨rfl, yes_if ?_⟩
              refine ⟨_, rfl, x, rfl, _, gd, sz1M (by simp [encL]; omega), p1.put Dn, upto_new p2 fr, ?_⟩
              rw [upd_same]
              simp [encL]
            · rintro H' ⟨p1, p2, gd⟩
              refine ⟨Str.empty, D, (y.reverse.map Lt.inv).map lS, rfl, rfl, .inl (SqL.of (by rw [gd, encL_map])), ?_, ?_⟩
              · rw [sum_row, List.length_map, List.length_map, List.length_reverse]
                show _ + _ * 0 ≤ _
                omega
              · rw [join_inv]
                exact ⟨invR y, _, rfl, p1, p2, o1.inv, by rw [invR_length]; exact o2, Gen.mem_inv om⟩
          · exact ⟨y, _, rfl, hP4, u34, o1, o2, Gen.mem om⟩
        · rintro σ H5 ⟨z, v6, rfl, p1, p2, p3, p4, p5⟩
          refine ⟨_, rfl, _, rfl, _, _, rfl, rfl, by rw [rS_len, rS_len]; exact Nat.le_of_lt (sz1M (by omega)), ?_⟩
          rw [rS_append]
          exact ⟨_, _, r ++ z, _, rfl, p1, p2, ho.app p3, by rw [List.length_append]; omega, hg.app p5⟩
      · exact ⟨_, _, r, _, rfl, hP2, u2, ho, by omega, hg⟩
    · rintro σ H2 ⟨v4, v5, r, v6, rfl, hP2, u2, ho, hl, hg⟩
      exact ⟨_, rfl, q r H2 hP2 u2 ho (by omega) hg⟩
theorem encR_to (rs : List Row) (n : Nat) : cutV (encR rs) none (some (n : Int)) = encR (rs.take n) := cutV_to _ rs n
theorem encR_from (rs : List Row) (n : Nat) : cutV (encR rs) (some (n : Int)) none = encR (rs.drop n) := cutV_from _ rs n
theorem encR_len (rs : List Row) : (encR rs).length = rs.length := List.length_map _
theorem encR_app (rs ts : List Row) : encR rs ++ encR ts = encR (rs ++ ts) := by unfold encR; rw [List.map_append]
theorem encR_get {rs : List Row} {i : Nat} {y : Row} (h : rs[i]? = some y) : atI (encR rs) (i : Int) = some (.str (rS y)) := atI_nat (by unfold encR; rw [List.getElem?_map, h]; rfl)
end
end Rb
/-! A letter taken out of a text: the tokens of the two are carried. -/
namespace Rb
set_option linter.all false
set_option maxRecDepth 100000
set_option maxHeartbeats 4000000
open PySem PySem.Spec PyProof.Rows L2
section
variable {X : Cx} {pins : List (Addr × Obj)} {σ : L2.St} {H : Hp} {s : Shared}
/-- a value stored under a local name: the frame holds just this value -/
theorem store_local {M : Model} {A : Around} {E : Value → Shared → Prop} {i : Nat} {x : Str} {v : V} {u : Value} {Q : Unit → Shared → Prop} (I : Inv X pins σ H s) (hN : X.N.Nodup) (hi : X.N[i]? = some x) (hk : X.env.scope.names.lookup x = some .local) (r : RelV v u)
    (h : ∀ s', Inv X pins (σ.set i (some v)) H s' → s'.toks = s.toks + 1 → (∃ m, s'.heap.Ns X.env.locals m ∧ m x = some u) → Q () s') : wpAny M A (storeName X.env x u) Q E s := by
  have J := I
  obtain ⟨m, hn, look⟩ := J.loc
  have hcls : (X.env.scope.kind == .class || (X.env.scope.kind == .module && X.env.locals != X.env.globals)) = false := by rw [J.ok.kind]; rfl
  refine wpAny_storeName_local hk hn (fun h' hn' hs => ?_) hcls
  have low : ∀ {b : Addr} {o : Obj}, X.s_0.heap.get? b = some o → h'.get? b = s.heap.get? b := fun e => hs.2 _ (Nat.ne_of_lt (Nat.lt_of_lt_of_le (Heap.lt_size e) J.ok.above))
  obtain ⟨oL, es, ep, hoL, hdL, _⟩ := id hn
  refine h _ { ok := J.ok, os := J.os, bare := J.bare, base := ?base, loc := ⟨_, hn', ?loc⟩, cell := ?cell, free := J.free, freeC := J.freeC, pin := ?pin, hok := ?hok, len := by rw [List.length_set]; exact J.len } rfl ⟨_, hn', by simp⟩
  case base =>
    refine ⟨fun b o e n hb hx => ?_, fun b o e n hb hx => ?_, J.base.free, fun b o e hx => ?_, J.base.tups, J.base.frzs, J.base.tbls⟩
    · show h'.get? b = some o
      rw [low e]
      exact J.base.keep b o e n hb hx
    · obtain ⟨sl, e1⟩ := J.base.slot b o e n hb hx
      refine ⟨sl, ?_⟩
      show h'.get? b = _
      rw [low e]
      exact e1
    · obtain ⟨o', e1⟩ := J.base.there b o e hx
      refine ⟨o', ?_⟩
      show h'.get? b = _
      rw [low e]
      exact e1
  case loc =>
    intro j y v' e1 e2 e3
    by_cases hj : j = i
    · subst hj
      have hy : y = x := Option.some.inj (e1.symm.trans hi)
      subst hy
      have hlt : j < σ.length := by rw [J.len]; exact (List.getElem?_eq_some_iff.mp hi).1
      rw [List.getElem?_set_self hlt] at e2
      cases e2
      exact ⟨u, r, .inl ⟨hk, by simp⟩⟩
    · rw [List.getElem?_set_ne (fun z => hj z.symm)] at e2
      obtain ⟨u', r', q⟩ := look j y v' e1 e2 e3
      refine ⟨u', r', ?_⟩
      rcases q with ⟨k, e⟩ | ⟨k, c, e, z⟩
      · have hyx : y ≠ x := fun e => hj (nodup_ix hN e1 (e ▸ hi))
        exact .inl ⟨k, by simp [hyx, e]⟩
      · exact .inr ⟨k, c, e, z.sameBut hs (J.cne y c e)⟩
  case cell =>
    intro y c e
    obtain ⟨w', z⟩ := J.cell y c e
    exact ⟨w', z.sameBut hs (J.cne y c e)⟩
  case pin =>
    intro p hp
    obtain ⟨e, n, ne, nf, d⟩ := J.pin p hp
    exact ⟨(hs.2 p.1 ne).trans e, n, ne, nf, d⟩
  case hok =>
    intro b ob e
    refine (J.hok b ob e).stay (fun c w' hc q => (hs.2 c ?_).trans q) (fun _ q => q) fun _ _ q => q
    intro z
    subst z
    have fr := J.free
    rcases hc with z | z
    · rw [z, e] at fr
      cases fr
    · rw [fr] at z
      cases z
/-- two readings of one frame agree -/
theorem ns_same {h : Heap} {a : Addr} {m m' : Str → Option Value} (k : h.Ns a m) (k' : h.Ns a m') (x : Str) : m x = m' x := by
  obtain ⟨o, es, ep, e, d, _, f⟩ := k
  obtain ⟨o', es', ep', e', d', _, f'⟩ := k'
  rw [e] at e'
  cases e'
  rw [d] at d'
  cases d'
  rw [← f x, ← f' x]
/-- a letter is taken out of a text, at a place: letter = text[place]; text = text.replace(letter, '') -/
def tPick (iL il : Nat) (te : TE) (u : TS) : TS := fun D σ H => ∃ z, σ[iL]? = some (some (.str z)) ∧ z.length ≤ 1000 ∧ te σ H fun y H2 => ∃ i c, y = .int i ∧ atI z.cps.toList i = some c ∧
  u D ((σ.set il (some (.str ⟨#[c]⟩))).set iL (some (.str (Txt.replace z ⟨#[c]⟩ ⟨#[]⟩)))) H2
theorem psst_pick {iL il : Nat} {nL nl : Str} {e : Expr} {te : TE} {rest : List Stmt} {u : TS} {j : Nat} {p0 p1 p2 p3 p4 p5 p6 p7 p8 p9 ap : Pos} (hN : X.N.Nodup) (hL : X.N[iL]? = some nL) (hl : X.N[il]? = some nl)
    (kL : X.env.scope.names.lookup nL = some .local) (kl : X.env.scope.names.lookup nl = some .local) (hne : iL ≠ il) (he : PE X e te) (hr : PSsT X rest u) (hs : PlainIx e)
    (hs1 : swapsWith (.Subscript (.Name nL p1) e p2) (some (.Name nl p0)) p3.line X.env = pure false := by rfl)
    (hs2 : swapsWith (.Call (.Attribute (.Name nL p5) "replace" ap) [.Name nl p6, .Constant (.str "") j p7] [] p8) (some (.Name nL p4)) p9.line X.env = pure false := by rfl)
    (hst : starEach [.Name nl p6, .Constant (.str "") j p7] X.env = [(false, eval (.Name nl p6) X.env), (false, eval (.Constant (.str "") j p7) X.env)] := by rfl)
    (hbase : attributeBase (.Name nL p5) "replace" X.env (eval (.Name nL p5) X.env) = eval (.Name nL p5) X.env := by rfl) (hline : (ap.endLine == p8.line) = true := by rfl)
    (hdL : (nL == ("__debug__" : Str)) = false := by decide) (hcL : (nL == ("__classdict__" : Str)) = false := by decide) (hdl : (nl == ("__debug__" : Str)) = false := by decide) :
    PSsT X (.Assign [.Name nl p0] (.Subscript (.Name nL p1) e p2) p3 :: .Assign [.Name nL p4] (.Call (.Attribute (.Name nL p5) "replace" ap) [.Name nl p6, .Constant (.str "") j p7] [] p8) p9 :: rest) (tPick iL il te u) := by
  intro pins s σ H D h0 I h
  obtain ⟨z, hz, hzl, h⟩ := h
  refine wpAny_execs_cons (wpAny_Assign_Name (Subscript_ (raw_name hL (.inl kL) I hz (fun v r => ?_) hdL hcL)) hs1)
  obtain ⟨tz, rfl⟩ := r
  refine wpAny_mono (PySem.wpAny_toks_of h0 (he.run pins s σ H _ I h)) (fun iv s2 q => ?_) fun _ _ x => x.2
  obtain ⟨h2, y, H2, I2, ry, i, c, rfl, hc, q⟩ := q
  obtain ⟨ti, rfl⟩ := ry
  obtain ⟨k, k1, k2, k3, k4, k5⟩ := atI_get hc
  have hl0 : z.cps.toList.length = z.length := by simp [Str.length]
  rw [hl0] at k1 k4 k5
  refine tail_any (typeIs_str s2 z tz) F.slot_str_getitem.lookup (PySem.P.getItem_str (c := c) ?_ (by rw [k1]; simpa using k2) ?_) (hs _ _)
  · have e1 : decide (i < -(2 ^ 63 : Int)) = false := decide_eq_false (by omega)
    have e2 : decide (i ≥ 2 ^ 63) = false := decide_eq_false (by omega)
    rw [e1, e2, Bool.or_false]
  refine store_local (v := .str ⟨#[c]⟩) (I2.tok (s2.toks + 1)) hN hl kl ⟨s2.toks, rfl⟩ fun s3 I3 t3 fr => ?_
  have t3' : s3.toks = s2.toks + 1 + 1 := t3
  obtain ⟨m, hm, hv⟩ := fr
  have hz3 : (σ.set il (some (.str ⟨#[c]⟩)))[iL]? = some (some (.str z)) := by rw [List.getElem?_set_ne (fun z => hne z.symm)]; exact hz
  refine wpAny_execs_cons (wpAny_Assign_Name (PySem.Call_method2 hbase hst hline (raw_name hL (.inl kL) I3 hz3 (fun v r => ?_) hdL hcL)) hs2)
  obtain ⟨tz', rfl⟩ := r
  refine ⟨"str", _, F.plainAttrs_str, F.slot_str_replace, F.type_str_replace, typeIs_str _ _ _, (fun _ e => nomatch e), Calls.callWith_builtin rfl (Calls.evalArgs_plain (Calls.spliced_cons ?_))⟩
  refine wpAny_Name (wpAny_loadName_local I3.ok.kind kl hm hv ?_) hdl
  refine Calls.spliced_cons (Calls.Constant_str (Calls.spliced_nil ?_))
  have hyz : ((⟨#[c]⟩ : Str) == (⟨#[]⟩ : Str)) = false := by
    refine beq_eq_false_iff_ne.mpr fun z => ?_
    have := congrArg Str.length z
    cases this
  refine wpAny_mono (PySem.wpAny_toks_of (n := 1) (by show 1 ≤ s3.toks + 1; omega) (PySem.SC.replace (Q := fun v s' => ∃ t', v = Value.str (Txt.replace z ⟨#[c]⟩ ⟨#[]⟩) t' ∧ Inv X pins (σ.set il (some (.str ⟨#[c]⟩))) H2 s') (by show s2.toks ≠ 0; omega) (by show s3.toks ≠ 0; omega) (by show s2.toks ≠ s3.toks; omega) hyz
    (by show z.length + (z.length + 1) * 0 ≤ _; omega) fun t' k => ⟨t', rfl, I3.tok k⟩)) (fun v s4 q4 => ?_) fun _ _ x => x.2
  obtain ⟨h4, t', rfl, I4⟩ := q4
  refine wpAny_mono (PySem.wpAny_toks_of h4 (store_ok (v := V.str (Txt.replace z ⟨#[c]⟩ ⟨#[]⟩)) (u := Value.str (Txt.replace z ⟨#[c]⟩ ⟨#[]⟩) t') (Q := fun _ s2 => Inv X pins _ H2 s2) I4 hN hL (.inl kL) ⟨t', rfl⟩ (fun _ I2 => I2) (.inr kL))) (fun _ s5 q5 => ?_) fun _ _ x => x.2
  exact hr pins s5 _ H2 D q5.1 q5.2 q
/-- for, with a token out ahead of each turn of its body -/
theorem pst_forT {tg iter : Expr} {body : List Stmt} {wi : TI} {g : TG} {tb : TS} {pos : Pos} (hp : PassesOwn (model X.prog X.w) X.A X.env X.xe) (hc : X.calm = true) (hi : PI X tg iter wi) (hg : PG X tg g) (hb : PSsT X body tb)
    (hs : ∀ x, foldedSetIterable iter X.env x = pure x := by intro _; rfl) : PST X (.For tg iter body [] pos) (tFor wi g tb) := by
  intro pins s σ H D h0 I h
  have tk : ∀ {α : Type} {t : Sem α} {Q : α → Shared → Prop} {s1 : Shared}, 1 ≤ s1.toks → wpAny (model X.prog X.w) X.A t Q X.xe s1 → wpAny (model X.prog X.w) X.A t (fun a s2 => 1 ≤ s2.toks ∧ Q a s2) X.xe s1 := fun hk h => wpAny_mono (PySem.wpAny_toks_of hk h) (fun _ _ q => q) fun _ _ q => q.2
  refine wpAny_For (thn (tk h0 (hi.run pins s σ H _ I h)) fun v s1 h1 => thn (tk h1.1 h1.2) fun itv s2 h2 => ?_) hs
  obtain ⟨hk2, it, fp, tn, J, H2, e, I2, T, st2, f2, W, ⟨m0, w0⟩, turn⟩ := h2
  subst e
  have lone : ∀ {H' : Hp}, (∀ b ∈ fp, H' b = none) → ∀ b ∈ fp, FpOk X pins H' b := fun hn b hb => ⟨hn b hb, (f2 b hb).2⟩
  refine codeAny_forLoop_any (fun n s' => 1 ≤ s'.toks ∧ ∃ i σ' H', Inv X pins σ' H' s' ∧ tn i s'.heap ∧ (∀ b ∈ fp, H' b = none) ∧ W i n σ' H') ?_ m0 ⟨hk2, 0, σ, H2, I2, st2, fun b hb => (f2 b hb).1, w0⟩
  rintro n s3 ⟨hk3, i, σ3, H3, I3, st3, fr3, w3⟩
  rcases turn i n σ3 H3 w3 with ⟨stop, qn⟩ | ⟨go, N, hN, step⟩
  · refine wpAny_passesOwn hp (thn (T.done X rfl rfl rfl hc i pins s3 σ3 H3 X.xe I3 (lone fr3) st3 stop) fun r s4 q4 => ?_)
    obtain ⟨rfl, I4⟩ := q4
    exact wpAny_execs_nil ⟨σ3, H3, I4, qn⟩
  refine wpAny_passesOwn hp (thn (tk hk3 (T.item X rfl rfl rfl hc i pins s3 σ3 H3 X.xe I3 (lone fr3) st3 go)) fun r s4 q4 => ?_)
  obtain ⟨hk4, u, rfl, h4⟩ := q4
  refine wpAny_passesOwn hp (thn (tk hk4 h4) fun _ s5 q5 => ?_)
  obtain ⟨hk5, x, H5, I5, r5, y5, st5, fr5⟩ := q5
  have J5 := I5.pinned (lone fr5) (T.obj _ _ st5)
  refine wpAny_passesOwn hp (thn (tk hk5 (hg.run _ s5 σ3 H5 x u _ J5 r5 (step x H5 y5))) fun _ s6 q6 => ?_)
  obtain ⟨hk6, σ6, H6, I6, q6⟩ := q6
  refine wpAny_passesOwn hp (thn (tk hk6 (hb _ s6 σ6 H6 _ hk6 I6 q6)) fun f s7 q7 => ?_)
  obtain ⟨hk7, q7⟩ := q7
  have held : ∀ {σ7 : L2.St} {H7 : Hp}, Inv X (pins ++ pinsAt fp s5.heap) σ7 H7 s7 → ∀ b ∈ fp, ∀ o, s5.heap.get? b = some o → s7.heap.get? b = some o ∧ H7 b = none := fun I7 b hb o e => by
    obtain ⟨e1, e2, _⟩ := I7.pin (b, o) (List.mem_append_right _ (List.mem_append_right _ (mem_pinsAt hb e)))
    exact ⟨e1, e2⟩
  have again : ∀ {σ7 : L2.St} {H7 : Hp}, Inv X (pins ++ pinsAt fp s5.heap) σ7 H7 s7 → N σ7 H7 → ∃ m, m < n ∧ (1 ≤ s7.toks ∧ ∃ i σ' H', Inv X pins σ' H' s7 ∧ tn i s7.heap ∧ (∀ b ∈ fp, H' b = none) ∧ W i m σ' H') := fun {σ7 H7} I7 n7 => by
    obtain ⟨m', hm, w7⟩ := hN σ7 H7 n7
    refine ⟨m', hm, hk7, i + 1, σ7, H7, I7.unpinned, T.keep _ _ _ st5 fun b hb o e => (held I7 b hb o e).1, fun b hb => ?_, w7⟩
    obtain ⟨o, e, _⟩ := T.obj _ _ st5 b hb
    exact (held I7 b hb o e).2
  cases f with
  | next => obtain ⟨σ7, H7, I7, n7⟩ := q7; exact again I7 n7
  | cont => obtain ⟨σ7, H7, I7, n7⟩ := q7; exact again I7 n7
  | brk => obtain ⟨σ7, H7, I7, q7⟩ := q7; exact ⟨σ7, H7, I7.unpinned, q7⟩
  | ret v => obtain ⟨x7, σ7, H7, I7, r7, q7⟩ := q7; exact ⟨x7, σ7, H7, I7.unpinned, r7, q7⟩
end
end Rb
/-! The law's own deeds. -/
namespace Rb
set_option linter.all false
set_option maxRecDepth 100000
set_option maxHeartbeats 4000000
open PySem PySem.Spec PyProof.Rows L2
def lowS (d : Fin 26) : Str := lS ⟨d, false⟩
theorem lowS_inj {d e : Fin 26} (h : lowS d = lowS e) : d = e := by
  have := lS_inj h
  cases this
  rfl
def unS (s : Str) : Fin 26 := ⟨(s.cps.toList.headD 97 - 97) % 26, Nat.mod_lt _ (by decide)⟩
theorem unS_low (d : Fin 26) : unS (lowS d) = d := by
  revert d
  decide +kernel
theorem low_perm {ys : List Str} {fs : List (Fin 26)} (h : ys.Perm (fs.map lowS)) : ∃ es : List (Fin 26), ys = es.map lowS ∧ es.Perm fs := by
  refine ⟨ys.map unS, ?_, ?_⟩
  · rw [List.map_map]
    refine (List.map_id' ys).symm.trans (List.map_congr_left fun y hy => ?_)
    obtain ⟨d, _, e⟩ := List.mem_map.mp (h.mem_iff.mp hy)
    show y = lowS (unS y)
    rw [← e, unS_low]
  · have := h.map unS
    rw [List.map_map] at this
    refine this.trans (List.Perm.of_eq ?_)
    refine (List.map_congr_left fun d _ => ?_).trans (List.map_id' fs)
    exact unS_low d
theorem lt_low (d e : Fin 26) : ltCps (lowS d).cps.toList (lowS e).cps.toList = decide (d < e) := by
  revert d e
  decide +kernel
theorem rising_low : ∀ (es : List (Fin 26)) (d : Fin 26), risingS (lowS d) (es.map lowS) = true → (d :: es).Pairwise (· ≤ ·)
  | [], d, _ => List.pairwise_singleton _ _
  | e :: es, d, h => by
    rw [List.map_cons] at h
    unfold risingS at h
    rw [lt_low] at h
    obtain ⟨h1, h2⟩ := Bool.and_eq_true_iff.mp h
    have h3 : ¬ (e < d) := by simpa using h1
    have h4 : d ≤ e := by
      rcases Nat.lt_or_ge e.val d.val with h | h
      · exact absurd h h3
      · exact h
    have ih := rising_low es e h2
    refine List.pairwise_cons.mpr ⟨fun x hx => ?_, ih⟩
    rcases List.mem_cons.mp hx with rfl | hx
    · exact h4
    · exact Nat.le_trans h4 ((List.pairwise_cons.mp ih).1 x hx)
theorem sorted_low {es : List (Fin 26)} (h : sortedS (es.map lowS) = true) (nd : es.Nodup) : es.Pairwise (· < ·) := by
  have hp : es.Pairwise (· ≤ ·) := by
    cases es with
    | nil => exact List.Pairwise.nil
    | cons d es => exact rising_low es d h
  refine (hp.and nd).imp fun {a b} ⟨h1, h2⟩ => ?_
  show a.val < b.val
  have h3 : a.val ≠ b.val := fun z => h2 (Fin.ext z)
  have h4 : a.val ≤ b.val := h1
  omega
theorem cut_low (rem : List (Fin 26)) (d : Fin 26) : Txt.replace (dS rem) ⟨#[97 + d.val]⟩ ⟨#[]⟩ = dS (rem.filter fun e => decide (e ≠ d)) := by
  refine str_ext ?_
  rw [replace_strikes]
  unfold dS
  rw [rS_list, rS_list, List.map_map, List.map_map, List.filter_map]
  congr 1
  refine List.filter_congr fun e _ => ?_
  show (97 + e.val != 97 + d.val) = decide (e ≠ d)
  by_cases h : e = d
  · subst h; simp
  · have : e.val ≠ d.val := fun z => h (Fin.ext z)
    have h2 : 97 + e.val ≠ 97 + d.val := by omega
    rw [decide_eq_true h]
    exact bne_iff_ne.mpr h2
theorem filter_out {rem : List (Fin 26)} {d : Fin 26} (nd : rem.Nodup) (hd : d ∈ rem) : (rem.filter fun e => decide (e ≠ d)).length + 1 = rem.length := by
  have h := nd.erase_eq_filter d
  have e : (rem.filter fun e => decide (e ≠ d)) = rem.erase d := by
    rw [h]
    refine List.filter_congr fun e _ => ?_
    by_cases h : e = d
    · subst h; simp
    · simp [h]
  rw [e, List.length_erase_of_mem hd]
  have := List.length_pos_of_mem hd
  omega
section
variable {P : Program} {w : World} {K : PySem.W.Frag} {mg : Str → Option Value} {base : Heap}
def spDeeds : Sp := fun vs H Q _ => ∃ a g : Addr, vs = [.ref a] ∧ PoolAt H a g ∧ ∀ ds H', Asc ds → PoolAt H' a g → Upto [a, g] H H' → Q (.str (dS ds)) H'
theorem ok__law_deeds (T : Top K mg) : FnOk P w K mg base CX0 2 T.d__law_deeds.f T.d__law_deeds.d ["_law_pool_here"] spDeeds := by
  refine T.d__law_deeds.F.ok sc__law_deeds (fun vs H Q E h => ?_) (fun cdv A outer s H vs Q E hr h => ?_)
  · obtain ⟨a, g, rfl, _⟩ := h
    rfl
  · obtain ⟨a, g, rfl, hP, q⟩ := h
    have hu := hu_of hr
    refine ⟨_,
      (pss_str (i := 1) sc__law_deeds.nd rfl (Or.inl rfl)
      (psst_cons (PST.of (ps_set (i := 2) sc__law_deeds.nd rfl (Or.inl rfl) (pe_lst pa_nil)))
      (psst_cons (pst_forT PassesOwn.never rfl (pi_range1 (by rfl) T.z_range (pa_cons (pe_ix ix_list (pe_lst (pa_cons pe_int (pa_cons pe_int (pa_cons pe_int (pa_cons pe_int (pa_cons pe_int (pa_cons pe_int (pa_cons pe_int (pa_cons pe_int pa_nil))))))))) (pe_call (ok__law_draw T) (hr.mono (by decide)) (by rfl) T.d__law_draw.g T.d__law_draw.F.kp T.d__law_draw.b .nil pass0 (pa_cons (pv 0) (pa_cons pe_int pa_nil))) (fun _ _ => rfl)) pa_nil)) (pg_name (i := 3) sc__law_deeds.nd rfl (Or.inl rfl))
      (psst_pick (iL := 1) (il := 4) sc__law_deeds.nd rfl rfl rfl rfl (by decide) (pe_call (ok__law_draw T) (hr.mono (by decide)) (by rfl) T.d__law_draw.g T.d__law_draw.F.kp T.d__law_draw.b .nil pass0 (pa_cons (pv 0) (pa_cons (pe_callB call_len_str (by rfl) T.z_len (by decide +kernel) (pa_cons (pv 1) pa_nil)) pa_nil)))
      (PSsT.of (pss_one (ps_expr (pe_bm PySem.F.plainAttrs_list PySem.F.slot_list_append PySem.F.type_list_append mt_append (pv 2) (pa_cons (pv 4) pa_nil))))) (fun _ _ => rfl)))
      (PSsT.of (pss_one (ps_ret (pe_join pe_str (pe_callB cr_sortedS (by rfl) T.z_sorted (by decide +kernel) (pa_cons (pv 2) pa_nil)))))))))
      , ?_⟩
    refine ⟨(by show 0 ≤ sizeLine; decide), fun p hp => ?_⟩
    have pn : p ∉ [a, g] := hP.out hp
    refine ⟨(by show 8 ≤ sizeLine; decide), fun k hk => ?_⟩
    have hP1 := hP.put (o := .lst []) pn
    have kn := hP1.out hk
    have kp : p ≠ k := ne_of_none upd_same hk
    have hk0 : H k = none := by rw [upd_ne kp.symm] at hk; exact hk
    refine ⟨_, rfl, a, g, 8, rfl, hP1.put kn, by omega, by omega, fun d H2 hd hP2 u2 => ?_⟩
    have gk := u2 _ _ upd_same kn
    obtain ⟨n, gn, n1, n4⟩ : ∃ n : Nat, atI [V.int 2, .int 1, .int 2, .int 3, .int 2, .int 3, .int 2, .int 4] (d : Int) = some (.int n) ∧ 1 ≤ n ∧ n ≤ 4 := by
      have : d = 0 ∨ d = 1 ∨ d = 2 ∨ d = 3 ∨ d = 4 ∨ d = 5 ∨ d = 6 ∨ d = 7 := by omega
      rcases this with rfl | rfl | rfl | rfl | rfl | rfl | rfl | rfl
      · exact ⟨2, rfl, by omega, by omega⟩
      · exact ⟨1, rfl, by omega, by omega⟩
      · exact ⟨2, rfl, by omega, by omega⟩
      · exact ⟨3, rfl, by omega, by omega⟩
      · exact ⟨2, rfl, by omega, by omega⟩
      · exact ⟨3, rfl, by omega, by omega⟩
      · exact ⟨2, rfl, by omega, by omega⟩
      · exact ⟨4, rfl, by omega, by omega⟩
    refine ⟨k, _, _, _, rfl, rfl, SqL.of gk, gn, n, rfl, by omega, by omega, ?_⟩
    have u02 : Upto [a, g] H H2 := (upto_new (upto_new (Upto.refl _ _) hp) hk0).trans u2
    have gp2 : H2 p = some (.lst []) := u2 _ _ (by rw [upd_ne kp]; exact upd_same) pn
    refine for_range (lo := 0) (n := n) (fun i σ H' => ∃ rem fs v3 v4, σ = [some (.ref a), some (.str (dS rem)), some (.ref p), v3, v4] ∧ rem.Nodup ∧ fs.Nodup ∧ fs.length = i ∧ rem.length + i = 26 ∧ (∀ x ∈ fs, x ∉ rem) ∧ PoolAt H' a g ∧ Upto [a, g] H H' ∧ H' p = some (.lst ((fs.map lowS).map V.str)))
      ⟨List.finRange 26, [], none, none, ?_, List.nodup_finRange 26, by simp, rfl, by simp, by simp, hP2, u02, gp2⟩ ?_ ?_
    · have e : dS (List.finRange 26) = Str.ofString "abcdefghijklmnopqrstuvwxyz" := smalls_text.symm
      rw [e]
      rfl
    · rintro i σ H3 hi ⟨rem, fs, v3, v4, rfl, r1, f1, f2, r2, f3, hP3, u3, gp3⟩
      have hlen : (dS rem).length ≤ 1000 := by rw [dS_len]; omega
      refine ⟨_, rfl, hlen, _, rfl, _, rfl, _, rfl, Nat.le_of_lt (small1000 hlen), a, g, rem.length, by rw [dS_len]; rfl, hP3, by omega, by omega, fun j H4 hj hP4 u4 => ?_⟩
      have gp4 := u4 _ _ gp3 pn
      have hr1 : rem[j]? = some rem[j] := List.getElem?_eq_getElem hj
      have hm : rem[j] ∈ rem := List.getElem_mem hj
      generalize rem[j] = c at hr1 hm
      refine ⟨_, _, rfl, dS_get hr1, ?_⟩
      refine ⟨_, rfl, .inl ⟨rfl, _, SqL.of gp4⟩, _, rfl, p, _, _, rfl, rfl, gp4, sz1M (by simp; omega), ?_⟩
      rw [cut_low]
      have h26 := filter_out r1 hm
      refine ⟨rem.filter fun e => decide (e ≠ c), fs ++ [c], _, _, rfl, r1.filter _, ?_, by simp [f2], by omega, ?_, hP4.put pn, upto_new (u3.trans u4) hp, ?_⟩
      · rw [List.nodup_append]
        refine ⟨f1, by simp, ?_⟩
        rintro x hx y hy rfl
        rw [List.mem_singleton.mp hy] at hx
        exact f3 _ hx hm
      · intro x hx hr
        obtain ⟨m1, m2⟩ := List.mem_filter.mp hr
        rcases List.mem_append.mp hx with hx | hx
        · exact f3 x hx m1
        · rw [List.mem_singleton.mp hx] at m2
          simp at m2
      · rw [upd_same]
        simp
        rfl
    · rintro σ H3 ⟨rem, fs, v3, v4, rfl, r1, f1, f2, r2, f3, hP3, u3, gp3⟩
      refine ⟨⟨_, rfl⟩, _, rfl, p, fs.map lowS, rfl, SqL.of gp3, by rw [List.length_map]; omega, fun ys p2 hy hs hp2 => ?_⟩
      obtain ⟨es, rfl, he⟩ := low_perm hy
      have hel := he.length_eq
      have edS : Txt.join Str.empty (es.map lowS) = dS es := by
        have := join_row (es.map fun d => (⟨d, false⟩ : Lt))
        rw [List.map_map] at this
        exact this
      refine ⟨Str.empty, p2, es.map lowS, rfl, rfl, .inl (SqL.of upd_same), ?_, ?_⟩
      · have e2 : ((es.map lowS).map fun x => x.length).sum = es.length := by
          clear he hs hy edS hel
          induction es with
          | nil => rfl
          | cons d es ih =>
            rw [List.map_cons, List.map_cons, List.sum_cons, ih, List.length_cons]
            show 1 + es.length = _
            omega
        rw [e2]
        show _ + _ * 0 ≤ _
        omega
      · rw [edS]
        refine q es _ ⟨sorted_low hs (he.nodup_iff.mpr f1), by omega, by omega⟩ (hP3.put (hP3.out hp2)) (upto_new u3 ?_)
        exact upto_free u3 (fun b hb _ => by
          intro z
          have := hP3.mut b hb
          rw [z] at this
          exact this) hp2
end
end Rb
/-! A web shown as text; lists of rows as data. -/
namespace Rb
set_option linter.all false
set_option maxRecDepth 100000
set_option maxHeartbeats 4000000
open PySem PySem.Spec PyProof.Rows L2
theorem ok_row (r : Row) : PyData.strOk (rS r) = true := by
  unfold PyData.strOk
  rw [← Array.all_toList, rS_list, List.all_eq_true]
  intro c hc
  obtain ⟨x, _, rfl⟩ := List.mem_map.mp hc
  have := x.d.isLt
  unfold Lt.c
  split <;> simp <;> omega
/-! ### rows as data -/
theorem lay_rows : ∀ rs : List Row, PyData.canLayAll0 (rs.map fun r => .str (rS r)) = true
  | [] => rfl
  | r :: rs => by
    rw [List.map_cons]
    unfold PyData.canLayAll0
    rw [lay_rows rs, Bool.and_true]
    unfold PyData.canLay0
    exact ok_row r
theorem depth_rows : ∀ rs : List Row, PyData.depthAll (rs.map fun r => .str (rS r)) = 0
  | [] => rfl
  | r :: rs => by
    rw [List.map_cons]
    unfold PyData.depthAll
    rw [depth_rows rs]
    unfold PyData.depth
    rfl
theorem shaped_rows (rs : List Row) : SeqAt.shaped (.list (rs.map fun r => .str (rS r))) = true := by
  unfold SeqAt.shaped
  refine Bool.and_eq_true_iff.mpr ⟨?_, decide_eq_true ?_⟩
  · unfold PyData.canLay0
    exact lay_rows rs
  · unfold PyData.depth
    rw [depth_rows]
    decide
theorem dp_rows {K : PySem.W.Frag} {H : Hp} : ∀ rs : List Row, DpAll K H (encR rs) (rs.map fun r => .str (rS r))
  | [] => .nil
  | r :: rs => .cons (.str _) (dp_rows rs)
/-! ### ways as data -/
theorem log_small {n : Nat} (h : n ≤ 100000) : n.log2 ≤ 16 := by
  by_cases h0 : n = 0
  · subst h0; decide
  · have : n.log2 < 17 := (Nat.log2_lt h0).mpr (by omega)
    omega
theorem weight_int {n : Nat} (h : n ≤ 100000) : PyData.weight (.int (n : Int)) ≤ 17 := by
  unfold PyData.weight
  split
  · omega
  · have := log_small h
    rw [Int.natAbs_natCast]
    omega
theorem show_int {n : Nat} (h : n ≤ 100000) : PyData.showable (.int (n : Int)) = true := by
  unfold PyData.showable
  refine decide_eq_true ?_
  have := log_small h
  rw [Int.natAbs_natCast]
  omega
theorem short_int {n : Nat} (h : n ≤ 100000) : PyData.intsShort 13 (.int (n : Int)) = true := by
  unfold PyData.intsShort
  refine decide_eq_true ?_
  unfold PyData.shown
  have := toString_length_le (v := (n : Int)) (by omega) (k := 13) (by decide) (by omega)
  exact this
structure Few (w : WebD) : Prop where
  size : w.size ≤ 100000
  lt : ∀ v ∈ w.ways, v.1 ≤ 100000 ∧ v.2.2 ≤ 100000
theorem way_facts {v : Way} (h1 : v.1 ≤ 100000) (h2 : v.2.2 ≤ 100000) : PyData.showable (encW v) = true ∧ PyData.intsShort 13 (encW v) = true ∧ PyData.weight (encW v) ≤ 40 := by
  have a1 := show_int h1
  have a2 := show_int h2
  have b1 := short_int h1
  have b2 := short_int h2
  have c1 := weight_int h1
  have c2 := weight_int h2
  refine ⟨?_, ?_, ?_⟩
  · simp [encW, PyData.showable, PyData.showableAll] at a1 a2 ⊢
    exact ⟨a1, a2⟩
  · simp [encW, PyData.intsShort, PyData.intsShortAll] at b1 b2 ⊢
    exact ⟨b1, b2⟩
  · have e : PyData.weight (encW v) = PyData.weight (.int (v.1 : Int)) + 1 + ((lS ⟨v.2.1, false⟩).cps.size + 1 + (PyData.weight (.int (v.2.2 : Int)) + 1 + 0)) := by
      simp [encW, PyData.weight, PyData.weightAll]
    rw [e]
    show _ + 1 + (1 + 1 + _) ≤ 40
    omega
theorem ways_facts : ∀ ws : List Way, (∀ v ∈ ws, v.1 ≤ 100000 ∧ v.2.2 ≤ 100000) → PyData.showableAll (ws.map encW) = true ∧ PyData.intsShortAll 13 (ws.map encW) = true ∧ PyData.weightAll (ws.map encW) ≤ 41 * ws.length
  | [], _ => ⟨rfl, rfl, Nat.le_refl _⟩
  | v :: ws, h => by
    obtain ⟨h1, h2⟩ := h v (by simp)
    obtain ⟨a1, a2, a3⟩ := way_facts h1 h2
    obtain ⟨b1, b2, b3⟩ := ways_facts ws fun v hv => h v (by simp [hv])
    rw [List.map_cons]
    refine ⟨?_, ?_, ?_⟩
    · unfold PyData.showableAll
      rw [a1, b1]; rfl
    · unfold PyData.intsShortAll
      rw [a2, b2]; rfl
    · unfold PyData.weightAll
      rw [List.length_cons]
      omega
def webData (ds : List (Fin 26)) (w : WebD) : PyData := .list [.str (dS ds), .int (w.size : Nat), .tuple (w.ways.map encW)]
theorem web_shown {ds : List (Fin 26)} {w : WebD} (o : WebOk w) (hl : w.ways.length ≤ 10000) (hd : ds.length ≤ 26) : (webData ds w).showable = true ∧ (webData ds w).hasDict = false ∧ (webData ds w).depth ≤ 60 ∧ (webData ds w).shown.length ≤ sizeLine := by
  obtain ⟨a1, a2, a3⟩ := ways_facts w.ways fun v hv => by
    obtain ⟨h1, h2⟩ := o.lt v hv
    have := o.size
    omega
  have b1 := show_int o.size
  have b2 := short_int o.size
  have b3 := weight_int o.size
  have d1 := depth_ways w.ways
  have c1 := lay_ways w.ways
  have hlay : (webData ds w).canLay0 = true := by
    have := ok_row (ds.map fun d => ⟨d, false⟩)
    unfold webData dS
    simp [PyData.canLay0, PyData.canLayAll0, this]
    exact c1
  have hdep : (webData ds w).depth ≤ 3 := by
    unfold webData
    simp only [PyData.depth, PyData.depthAll]
    omega
  have hw : (webData ds w).weight ≤ 2 ^ 20 := by
    have e : (webData ds w).weight = (dS ds).cps.size + 1 + (PyData.weight (.int (w.size : Int)) + 1 + (PyData.weightAll (w.ways.map encW) + 1 + 0)) := by
      simp [webData, PyData.weight, PyData.weightAll]
    have e2 : (dS ds).cps.size = ds.length := dS_len ds
    rw [e, e2]
    omega
  have hs : (webData ds w).intsShort 13 = true := by
    unfold webData
    simp [PyData.intsShort, PyData.intsShortAll] at b2 ⊢
    exact ⟨b2, a2⟩
  refine ⟨?_, PyData.hasDict_of_canLay _ hlay, by omega, ?_⟩
  · unfold webData
    simp [PyData.showable, PyData.showableAll] at b1 ⊢
    exact ⟨b1, a1⟩
  · have := shown_le13 (d := webData ds w) (by
      unfold PyData.layable0
      rw [hlay, decide_eq_true (show (webData ds w).depth ≤ 64 by omega), decide_eq_true hw]
      rfl) hs
    refine Nat.le_trans this ?_
    decide
end Rb
/-! The law's own reading of homes. -/
namespace Rb
set_option linter.all false
set_option maxRecDepth 100000
set_option maxHeartbeats 4000000
open PySem PySem.Spec PyProof.Rows L2
theorem told_at {H : Hp} {a : Addr} {ds : List (Fin 26)} {m : Wd} (h : ToldAt H a ds m) (nd : ds.Nodup) : ∃ kvs, H a = some (.dK kvs) ∧ kvs.map (·.1) = (ds.map lowS).map Sum.inr ∧ ∀ d ∈ ds, ∃ t, valV kvs (.inr (lS ⟨d, false⟩)) = some (.ref t) ∧ H t = some (.tup (natV (m.mv d))) := by
  obtain ⟨ts, e1, e2, e3⟩ := h
  refine ⟨_, e2, ?_, fun d hd => ?_⟩
  · rw [← e1, List.map_map, List.map_map, List.map_map]
    rfl
  · rw [← e1] at hd nd
    obtain ⟨e, he, rfl⟩ := List.mem_map.mp hd
    exact ⟨e.2, told_val nd he, e3 e he⟩
theorem ToldAt.same {H H' : Hp} {a : Addr} {ds : List (Fin 26)} {m : Wd} (h : ToldAt H a ds m) (e : Same H H') : ToldAt H' a ds m := by
  obtain ⟨ts, e1, e2, e3⟩ := h
  exact ⟨ts, e1, e _ _ e2, fun d hd => e _ _ (e3 d hd)⟩
theorem eqV_nat (a b : Nat) : eqV (.int (a : Nat)) (.int (b : Nat)) = decide (a = b) := by
  by_cases h : a = b
  · subst h
    simp [eqV]
  · have : ¬ ((a : Int) = b) := by omega
    simp [eqV, h, this]
theorem dp_nats {K : PySem.W.Frag} {H : Hp} : ∀ (l : List Nat), DpAll K H (natV l) (l.map fun n : Nat => PyData.int (n : Int))
  | [] => .nil
  | n :: l => .cons (.int _) (dp_nats l)
theorem natV_int (l : List Nat) : natV l = (l.map fun n : Nat => (n : Int)).map V.int := by
  rw [List.map_map]
  rfl
theorem rgV_nat (n : Nat) : rgV 0 (n : Int) = natV (List.range n) := by
  unfold rgV natV
  simp
theorem shaped_nats (l : List Nat) : SeqAt.shaped (.list (l.map fun n : Nat => PyData.int (n : Int))) = true := by
  have h1 : ∀ l : List Nat, PyData.canLayAll0 (l.map fun n : Nat => PyData.int (n : Int)) = true := by
    intro l
    induction l with
    | nil => rfl
    | cons n l ih =>
      rw [List.map_cons]
      unfold PyData.canLayAll0
      rw [ih]
      rfl
  have h2 : ∀ l : List Nat, PyData.depthAll (l.map fun n : Nat => PyData.int (n : Int)) ≤ 1 := by
    intro l
    induction l with
    | nil => exact Nat.zero_le _
    | cons n l ih =>
      rw [List.map_cons]
      unfold PyData.depthAll
      refine Nat.max_le.mpr ⟨?_, ih⟩
      simp [PyData.depth]
  unfold SeqAt.shaped
  refine Bool.and_eq_true_iff.mpr ⟨?_, decide_eq_true ?_⟩
  · unfold PyData.canLay0
    exact h1 l
  · unfold PyData.depth
    have := h2 l
    omega
theorem perm_asc {ns : List Int} {n : Nat} {l : List Nat} (hl : l.Perm (List.range n)) (hp : ns.Perm (l.map fun n : Nat => (n : Int))) (hs : ns.Pairwise (· ≤ ·)) : ns.map V.int = natV (List.range n) := by
  have h1 : ns.Perm ((List.range n).map fun n : Nat => (n : Int)) := hp.trans (hl.map _)
  have h2 : ((List.range n).map fun n : Nat => (n : Int)).Pairwise (· ≤ ·) := by
    refine List.pairwise_map.mpr (List.Pairwise.imp (fun {a b} h => ?_) (List.pairwise_lt_range))
    omega
  have := List.Perm.eq_of_pairwise (le := fun a b : Int => a ≤ b) (fun a b _ _ h k => Int.le_antisymm h k) hs h2 h1
  rw [this, List.map_map]
  rfl
section
variable {P : Program} {w : World} {K : PySem.W.Frag} {mg : Str → Option Value} {base : Heap}
def spLLed : Sp := fun vs H Q _ => ∃ (a : Addr) (ds : List (Fin 26)) (m : Wd) (i : Nat) (r : Row), vs = [.ref a, .int i, .str (rS r)] ∧ ToldAt H a ds m ∧ ds.Nodup ∧ WdOk m ds ∧ i < m.size ∧ m.size ≤ 200000 ∧ OverD ds r ∧ ∀ H', Same H H' → Q (.int (goM m i r)) H'
theorem ok__law_led (T : Top K mg) : FnOk P w K mg base CX0 1 T.d__law_led.f T.d__law_led.d ["_law_moves", "_law_standing", "_law_row"] spLLed := by
  refine T.d__law_led.F.ok sc__law_led (fun vs H Q E h => ?_) (fun cdv A outer s H vs Q E hr h => ?_)
  · obtain ⟨a, ds, m, i, r, rfl, _⟩ := h
    rfl
  · obtain ⟨a, ds, m, i, r, rfl, hT, hnd, hm, hi, hz, hr', q⟩ := h
    have hu := hu_of hr
    refine ⟨_,
      (pss_cons (ps_for PassesOwn.never rfl (pi_str (pv 2)) (pg_name (i := 3) sc__law_led.nd rfl (Or.inl rfl))
      (pss_cons (ps_set (i := 4) sc__law_led.nd rfl (Or.inl rfl) (pe_dget hu (pv 0) (pe_lower (pv 3)) (fun _ _ => rfl)))
      (pss_one (ps_if (pt_cmpR op_eq (pv 3) (pe_lower (pv 3)) (nomark _))
      (pss_one (ps_set (i := 1) sc__law_led.nd rfl (Or.inl rfl) (pe_ix ix_tup (pv 4) (pv 1) (fun _ _ => rfl))))
      (pss_one (ps_set (i := 1) sc__law_led.nd rfl (Or.inl rfl) (pe_bm PySem.F.plainAttrs_list PySem.F.slot_list_index PySem.F.type_list_index mt_index (pe_callTy call_list_of (by rfl) T.z_list (by decide +kernel) (pa_cons (pv 4) pa_nil)) (pa_cons (pv 1) pa_nil))))))))
      (pss_one (ps_ret (pv 1))))
      , ?_⟩
    obtain ⟨kvs, a1, _, a2⟩ := told_at hT hnd
    refine ⟨_, rfl, _, rfl, for_row (r := r) (fun pre σ H' => ∃ v3 v4, σ = [some (.ref a), some (.int (goM m i pre : Nat)), some (.str (rS r)), v3, v4] ∧ Same H H' ∧ goM m i pre < m.size) ⟨none, none, rfl, Same.refl _, hi⟩ ?_ ?_⟩
    · rintro pre x post σ H' e ⟨v3, v4, rfl, s1, hlt⟩
      have hx : x.d ∈ ds := lets_d (hr' x (by rw [e]; simp))
      obtain ⟨t, b1, b2⟩ := a2 x.d hx
      have hl1 : Txt.lower (lS x) = lS ⟨x.d, false⟩ := lower_lt x
      have eg : goM m i (pre ++ [x]) = mvD m (goM m i pre) x := by rw [goM_app]; rfl
      refine ⟨_, rfl, _, rfl, ⟨_, rfl⟩, _, rfl, rfl, (by show 1 ≤ _; decide), a, .ref t, rfl, ?_, ?_⟩
      · rw [hl1]
        exact dgK (k := .inr (lS ⟨x.d, false⟩)) (s1 _ _ a1) b1
      refine ⟨_, rfl, _, rfl, ⟨_, rfl⟩, _, rfl, rfl, (by show 1 ≤ _; decide), rfl, _, rfl, ?_⟩
      show if decide (V.str (lS x) = V.str (Txt.lower (lS x))) = true then _ else _
      rw [low_test]
      generalize goM m i pre = j at *
      obtain ⟨xd, xu⟩ := x
      cases xu with
      | false =>
        refine iteT ?_
        refine ⟨_, rfl, _, rfl, t, _, _, _, rfl, rfl, SqT.of (s1 _ _ b2), atI_nat (natV_at (mvL_at hm (x := ⟨xd, false⟩) hx hlt)), ?_⟩
        refine ⟨some (.str (lS ⟨xd, false⟩)), some (.ref t), ?_, s1, by rw [eg]; exact mvD_lt hm hx hlt⟩
        rw [eg]
        rfl
      | true =>
        refine iteF ?_
        have hjm : j ∈ m.mv xd := (hm.perm xd hx).mem_iff.mpr (List.mem_range.mpr hlt)
        have hidx := List.idxOf_lt_length_of_mem hjm
        have hget : (m.mv xd)[(m.mv xd).idxOf j]? = some j := by rw [List.getElem?_eq_getElem hidx, List.getElem_idxOf hidx]
        refine ⟨_, rfl, t, _, rfl, .inr (SqT.of (s1 _ _ b2)), fun l hl => ?_⟩
        refine ⟨.inl ⟨rfl, _, SqL.of upd_same⟩, _, rfl, l, natV (m.mv xd), .int (j : Nat), (m.mv xd).idxOf j, .int (j : Nat), rfl, rfl, SqL.of upd_same, rfl, ?_, natV_at hget, by rw [eqV_nat]; simp, ?_, ?_⟩
        · refine List.all_eq_true.mpr fun v hv => ?_
          obtain ⟨n, _, rfl⟩ := List.mem_map.mp hv
          rfl
        · intro n z' hn hz'
          unfold natV at hz'
          rw [List.getElem?_map] at hz'
          cases e3 : (m.mv xd)[n]? with
          | none => rw [e3] at hz'; cases hz'
          | some v =>
            rw [e3] at hz'
            cases hz'
            rw [eqV_nat]
            refine decide_eq_false ?_
            rintro rfl
            obtain ⟨h1, e4⟩ := List.getElem?_eq_some_iff.mp e3
            obtain ⟨h2, e5⟩ := List.getElem?_eq_some_iff.mp hget
            exact List.pairwise_iff_getElem.mp (hm.nd hx) _ _ h1 h2 hn (e4.trans e5.symm)
        · refine ⟨some (.str (lS ⟨xd, true⟩)), some (.ref t), ?_, s1.trans (same_new hl), by rw [eg]; exact mvD_lt hm hx hlt⟩
          rw [eg, mvD_true hlt]
          rfl
    · rintro σ H' ⟨v3, v4, rfl, s1, hlt⟩
      exact ⟨_, rfl, q H' s1⟩
def spLIsHome (K : PySem.W.Frag) (C : Addr) : Sp := fun vs H Q _ => ∃ ds a b p rs den m, vs = [.str (dS ds), .ref a, .ref b, .ref p] ∧ H a = some (.lst (encR rs)) ∧ H b = some (.lst (encR den)) ∧ Asc ds ∧ rs.length ≤ 1000 ∧ den.length ≤ 1000 ∧ (∀ r ∈ rs, OverD ds r) ∧ (∀ r ∈ den, OverD ds r) ∧ WorldAt K C H p ds m ∧ ∀ H', Same H H' → Q (.bl (isHomeB m rs den)) H'
theorem ok__law_is_home (T : Top K mg) : FnOk P w K mg base CX0 3 T.d__law_is_home.f T.d__law_is_home.d ["_law_deeds_here", "_law_rows_here", "_law_denied_here", "_law_thing"] (spLIsHome K T.C_RawWorld) := by
  refine T.d__law_is_home.F.ok sc__law_is_home (fun vs H Q E h => ?_) (fun cdv A outer s H vs Q E hr h => ?_)
  · obtain ⟨ds, a, b, p, rs, den, m, rfl, _⟩ := h
    rfl
  · obtain ⟨ds, a, b, p, rs, den, m, rfl, ha, hb, hA, hl1, hl2, hr1, hr2, hW, q⟩ := h
    have hu := hu_of hr
    have c := wcR T
    refine ⟨_,
      (pss_cons (ps_if (PW.pt (pw_or (pt_not (pt_val (pe_callB call_isi (by rfl) T.z_isinstance (by decide +kernel) (pa_cons (pv 3) (pa_cons (pe_glob (v := .ref T.C_World) rfl T.k_World.g rfl) pa_nil))))) (pw_or1 (pt_cmpR op_ne (pe_fld (pv 3) rfl) (pv 0) (nomark _)))))
      (pss_one (ps_ret pe_bl))
      pss_nil)
      (pss_cons (ps_set (i := 4) sc__law_is_home.nd rfl (Or.inr rfl) (pe_prop (pv 3) T.k_RawWorld.cl T.q_RawWorld_moves (ok_World_moves T (wcR T)) (hr.mono (by decide)) T.p_World_moves.b .nil pass0 rfl))
      (pss_cons (ps_if (pt_cmpR (op_neD hr.units) (pe_callB (call_sortedD rfl) (by rfl) T.z_sorted (by decide +kernel) (pa_cons (pv 4) pa_nil)) (pe_callTy (call_listS rfl) (by rfl) T.z_list (by decide +kernel) (pa_cons (pv 0) pa_nil)) (nomark _))
      (pss_one (ps_ret pe_bl))
      pss_nil)
      (pss_cons (ps_for PassesOwn.never rfl (pi_str (pv 0)) (pg_name (i := 5) sc__law_is_home.nd rfl (Or.inl rfl))
      (pss_one (ps_if (PW.pt (pw_or (pt_not (pt_val (pe_callB call_isi (by rfl) T.z_isinstance (by decide +kernel) (pa_cons (pe_dget hu (pv 4) (pv 5) (fun _ _ => rfl)) (pa_cons (pe_bltn (v := .ty "tuple") (u := .type "tuple") (by rfl) T.z_tuple (by decide +kernel) rfl) pa_nil))))) (pw_or1 (pt_cmpR (op_neD hr.units) (pe_callB cr_sortedIT (by rfl) T.z_sorted (by decide +kernel) (pa_cons (pe_dget hu (pv 4) (pv 5) (fun _ _ => rfl)) pa_nil)) (pe_listRg rfl (by rfl) T.z_list (prg_1 (by rfl) T.z_range (pe_fld (pv 3) rfl))) (nomark _)))))
      (pss_one (ps_ret pe_bl))
      pss_nil)))
      (pss_cons (ps_if (pt_not (pt_val (pe_callB (cr_all rfl) (by rfl) T.z_all (by decide +kernel) (pa_cons (pe_lc (own := [("_law_row", 6)]) (g := (gName 6)) (tt := tYes) rfl sc__law_is_home.nd (pi_list (pv 1)) (blkOk_by (N := N__law_is_home) (sc := defScope s__law_is_home) (by decide +kernel)) (fun _ _ _ _ _ => (pg_name (i := 6) sc__law_is_home.nd rfl (Or.inl rfl))) (fun _ _ _ _ _ => pts_nil) (fun _ _ _ _ _ => (pe_cmpR op_eq (pe_call (ok__law_led T) (hr.mono (by decide)) (by rfl) T.d__law_led.g T.d__law_led.F.kp T.d__law_led.b .nil pass0 (pa_cons (pv 4) (pa_cons pe_int (pa_cons (pv 6) pa_nil)))) pe_int (nomark _)))) pa_nil))))
      (pss_one (ps_ret pe_bl))
      pss_nil)
      (pss_one (ps_ret (pe_not (pe_callB (cr_any rfl) (by rfl) T.z_any (by decide +kernel) (pa_cons (pe_lc (own := [("_law_row", 6)]) (g := (gName 6)) (tt := tYes) rfl sc__law_is_home.nd (pi_list (pv 2)) (blkOk_by (N := N__law_is_home) (sc := defScope s__law_is_home) (by decide +kernel)) (fun _ _ _ _ _ => (pg_name (i := 6) sc__law_is_home.nd rfl (Or.inl rfl))) (fun _ _ _ _ _ => pts_nil) (fun _ _ _ _ _ => (pe_cmpR op_eq (pe_call (ok__law_led T) (hr.mono (by decide)) (by rfl) T.d__law_led.g T.d__law_led.F.kp T.d__law_led.b .nil pass0 (pa_cons (pv 4) (pa_cons pe_int (pa_cons (pv 6) pa_nil)))) pe_int (nomark _)))) pa_nil))))))))))
      , ?_⟩
    have J := T.j_RawWorld_World
    have dec_same : ∀ x : V, (!decide (x = x)) = false := fun x => by simp
    obtain ⟨hm, hz, dx, k, b', hp, hAll, _⟩ := id hW
    have hnd : ds.Nodup := hA.1.imp fun {a b} h => by intro z; subst z; exact Nat.lt_irrefl _ h
    refine ⟨_, rfl, .ref p, .ref T.C_World, .ref T.C_RawWorld, .ref T.C_World, true, rfl, .own _, .base (.ins hp J.cl J.ha J.hn J.htk J.hm), J.me, true, rfl, ?_⟩
    refine iteF ?_
    refine ⟨_, rfl, p, T.C_RawWorld, dx, _, _, rfl, hp, c.cl, c.deeds, rfl, _, rfl, rfl, _, rfl, ?_⟩
    rw [dec_same]
    refine iteF ?_
    refine ⟨_, rfl, p, dx, _, rfl, hp, p, ds, m, rfl, hW, hnd, by have := hA.2.2; omega, fun mv H1 hmv s1 hT => ?_⟩
    obtain ⟨kvs, a1, ak, a2⟩ := told_at hT hnd
    have hlow : ∀ d : Fin 26, V.str (lowS d) = V.str (lS ⟨d, false⟩) := fun d => rfl
    have h4 := hA.2.2
    refine ⟨_, rfl, mv, kvs, ds.map lowS, rfl, .inl a1, ak, by rw [List.length_map]; omega, fun ys l1 hperm hsort hl1n => ?_⟩
    obtain ⟨es, rfl, hes⟩ := low_perm hperm
    have hess : es = ds := List.Perm.eq_of_pairwise (le := fun a b : Fin 26 => a < b) (fun a b _ _ h k => absurd (Nat.lt_trans h k) (Nat.lt_irrefl _)) (sorted_low hsort (hes.nodup_iff.mpr hnd)) hA.1 hes
    subst hess
    have s2 := same_new hl1n (o := .lst ((es.map lowS).map V.str))
    refine ⟨_, rfl, dS es, rfl, ?_, fun l2 hl2n => ?_⟩
    · show (dS es).length ≤ sizeLine
      rw [dS_len]
      exact Nat.le_trans h4 (by decide)
    have e1 : (es.map lowS).map V.str = encR (es.map fun d => [(⟨d, false⟩ : Lt)]) := by
      unfold encR
      rw [List.map_map, List.map_map]
      rfl
    have e2 : ((dS es).cps.toList.map fun c => V.str ⟨#[c]⟩) = encR (es.map fun d => [(⟨d, false⟩ : Lt)]) := by
      unfold dS
      rw [rS_list]
      unfold encR
      rw [List.map_map, List.map_map, List.map_map]
      rfl
    rw [e1, e2]
    rw [e1] at s2 hl2n
    have s3 := same_new hl2n (o := .lst (encR (es.map fun d => [(⟨d, false⟩ : Lt)])))
    generalize hLL : encR (es.map fun d => [(⟨d, false⟩ : Lt)]) = LL at *
    have g1 : (upd (upd H1 l1 (.lst LL)) l2 (.lst LL)) l1 = some (.lst LL) := s3 _ _ upd_same
    have g2 : (upd (upd H1 l1 (.lst LL)) l2 (.lst LL)) l2 = some (.lst LL) := upd_same
    generalize upd (upd H1 l1 (.lst LL)) l2 (.lst LL) = H2 at *
    subst hLL
    refine ⟨_, _, .lst (SqL.of g1) (dp_rows _), .lst (SqL.of g2) (dp_rows _), shaped_rows _, shaped_rows _, ?_⟩
    rw [SeqAt.eqv_refl _ (SeqAt.canLay_of_shaped (shaped_rows _))]
    refine ⟨_, rfl, iteF ?_⟩
    have s02 : Same H H2 := s1.trans (s2.trans s3)
    refine ⟨_, rfl, _, rfl, for_deeds (fun pre σ H' => ∃ v5, σ = [some (.str (dS es)), some (.ref a), some (.ref b), some (.ref p), some (.ref mv), v5, none] ∧ Same H2 H') ⟨none, rfl, Same.refl _⟩ ?_ ?_⟩
    · rintro pre d post σ H' e ⟨v5, rfl, s4⟩
      have hd : d ∈ es := by rw [e]; simp
      have b1 := s4 _ _ (s3 _ _ (s2 _ _ a1))
      obtain ⟨t, t1, t2⟩ := a2 d hd
      have t3 := s4 _ _ (s3 _ _ (s2 _ _ t2))
      have hp4 := s4 _ _ (s02 _ _ hp)
      refine ⟨_, rfl, _, rfl, mv, .ref t, rfl, dgK (k := .inr (lS ⟨d, false⟩)) b1 t1, .ref t, .ty "tuple", .type "tuple", .type "tuple", true, rfl, .ty _, .base (.tup t3), kit_ty (by decide +kernel), true, rfl, ?_⟩
      refine iteF ?_
      refine ⟨_, rfl, _, rfl, mv, .ref t, rfl, dgK (k := .inr (lS ⟨d, false⟩)) b1 t1, t, _, rfl, by rw [← natV_int]; exact SqT.of t3, fun ns' l3 hperm3 hsort3 hl3 => ?_⟩
      rw [perm_asc (hm.perm d hd) hperm3 hsort3]
      have s5 := same_new hl3 (o := .lst (natV (List.range m.size)))
      refine ⟨_, rfl, p, T.C_RawWorld, dx, _, _, rfl, s5 _ _ hp4, c.cl, c.size, rfl, _, rfl, ⟨by omega, by omega, by omega, by omega, by omega⟩, fun l4 hl4 => ?_⟩
      rw [rgV_nat]
      have s6 := same_new hl4 (o := .lst (natV (List.range m.size)))
      have g3 := s6 _ _ (show (upd H' l3 (.lst (natV (List.range m.size)))) l3 = some (.lst (natV (List.range m.size))) from upd_same)
      refine ⟨_, _, .lst (SqL.of g3) (dp_nats _), .lst (SqL.of upd_same) (dp_nats _), shaped_nats _, shaped_nats _, ?_⟩
      rw [SeqAt.eqv_refl _ (SeqAt.canLay_of_shaped (shaped_nats _))]
      refine ⟨_, rfl, iteF ?_⟩
      exact ⟨_, rfl, s4.trans (s5.trans s6)⟩
    · rintro σ H' ⟨v5, rfl, s4⟩
      have s04 : Same H H' := s02.trans s4
      have hT4 : ToldAt H' mv es m := hT.same (s2.trans (s3.trans s4))
      have ha4 := s04 _ _ ha
      have hb4 := s04 _ _ hb
      refine ⟨_, rfl, a, rfl, ⟨_, SqL.of ha4⟩, fun D hD => ?_⟩
      refine lc_dl (K := K) (xs := encR rs) (ds := rs) (List.length_map _) (fun pre H5 => Same H' H5 ∧ H5 D = some (.lst ((pre.map fun r => decide (goM m 0 r = 0)).map V.bl))) ⟨same_new hD, upd_same⟩ (fun pre H5 h => SqL.of (h.1 _ _ ha4)) ?_ ?_
      · rintro pre r post x H5 e hx ⟨s5, gD⟩
        have ex := encR_at e hx
        subst ex
        have hpre : pre.length < 1000 := by
          have := congrArg List.length e
          rw [List.length_append, List.length_cons] at this
          omega
        refine ⟨rfl, yes_if ?_⟩
        refine ⟨_, rfl, _, rfl, mv, es, m, 0, r, rfl, hT4.same s5, hnd, hm, hm.pos, hz, hr1 r (by rw [e]; simp), fun H6 s6 => ?_⟩
        refine ⟨rfl, _, s6 _ _ gD, sz1M (by simp; omega), same_mut (s5.trans s6) hD, ?_⟩
        rw [upd_same]
        show some (HO.lst (_ ++ [V.bl (decide (V.int ((goM m 0 r : Nat) : Int) = V.int ((0 : Nat) : Int)))])) = _
        rw [dec_nat]
        simp
      · rintro H5 ⟨s5, gD⟩
        refine ⟨D, _, rfl, SqL.of gD, _, rfl, ?_⟩
        have qr := fun H' e => q H' (s04.trans (s5.trans e))
        have eall : (rs.map fun r => decide (goM m 0 r = 0)).all id = decide (∀ r ∈ rs, goM m 0 r = 0) := by
          rw [List.all_map]
          by_cases h : ∀ r ∈ rs, goM m 0 r = 0
          · rw [decide_eq_true h]
            exact List.all_eq_true.mpr fun r hr => decide_eq_true (h r hr)
          · rw [decide_eq_false h]
            refine Bool.eq_false_iff.mpr fun z => h fun r hr => ?_
            exact of_decide_eq_true (List.all_eq_true.mp z r hr)
        rw [eall]
        by_cases hr0 : ∀ r ∈ rs, goM m 0 r = 0
        · rw [decide_eq_true hr0]
          refine iteF ?_
          have hb5 := s5 _ _ hb4
          refine ⟨_, rfl, b, rfl, ⟨_, SqL.of hb5⟩, fun D2 hD2 => ?_⟩
          refine lc_dl (K := K) (xs := encR den) (ds := den) (List.length_map _) (fun pre H6 => Same H5 H6 ∧ H6 D2 = some (.lst ((pre.map fun r => decide (goM m 0 r = 0)).map V.bl))) ⟨same_new hD2, upd_same⟩ (fun pre H6 h => SqL.of (h.1 _ _ hb5)) ?_ ?_
          · rintro pre r post x H6 e hx ⟨s6, gD2⟩
            have ex := encR_at e hx
            subst ex
            have hpre : pre.length < 1000 := by
              have := congrArg List.length e
              rw [List.length_append, List.length_cons] at this
              omega
            refine ⟨rfl, yes_if ?_⟩
            refine ⟨_, rfl, _, rfl, mv, es, m, 0, r, rfl, hT4.same (s5.trans s6), hnd, hm, hm.pos, hz, hr2 r (by rw [e]; simp), fun H7 s7 => ?_⟩
            refine ⟨rfl, _, s7 _ _ gD2, sz1M (by simp; omega), same_mut (s6.trans s7) hD2, ?_⟩
            rw [upd_same]
            show some (HO.lst (_ ++ [V.bl (decide (V.int ((goM m 0 r : Nat) : Int) = V.int ((0 : Nat) : Int)))])) = _
            rw [dec_nat]
            simp
          · rintro H6 ⟨s6, gD2⟩
            refine ⟨D2, _, rfl, SqL.of gD2, _, rfl, ?_⟩
            have eany : (!(den.map fun r => decide (goM m 0 r = 0)).any id) = isHomeB m rs den := by
              rw [List.any_map]
              unfold isHomeB
              by_cases h : ∀ r ∈ den, goM m 0 r ≠ 0
              · rw [decide_eq_true ⟨hr0, h⟩]
                refine Bool.not_eq_true' _ |>.mpr ?_
                refine Bool.eq_false_iff.mpr fun z => ?_
                obtain ⟨r, hr, hz⟩ := List.any_eq_true.mp z
                exact h r hr (of_decide_eq_true hz)
              · rw [decide_eq_false fun z => h z.2]
                refine Bool.not_eq_false' _ |>.mpr ?_
                obtain ⟨r, hr⟩ := Classical.not_forall.mp h
                obtain ⟨hr1, hr2⟩ := Classical.not_imp.mp hr
                exact List.any_eq_true.mpr ⟨r, hr1, decide_eq_true (Classical.not_not.mp hr2)⟩
            show Q (V.bl (!(den.map fun r => decide (goM m 0 r = 0)).any id)) H6
            rw [eany]
            exact qr H6 s6
        · rw [decide_eq_false hr0]
          refine iteT ?_
          have : isHomeB m rs den = false := decide_eq_false fun z => hr0 z.1
          have q5 := qr H5 (Same.refl _)
          rw [this] at q5
          exact q5
end
end Rb
/-! Denied rows, drawn. -/
namespace Rb
set_option linter.all false
set_option maxRecDepth 100000
set_option maxHeartbeats 4000000
open PySem PySem.Spec PyProof.Rows L2
section
variable {P : Program} {w : World} {K : PySem.W.Frag} {mg : Str → Option Value} {base : Heap}
def spDen : Sp := fun vs H Q _ => ∃ (a g b : Addr) (ds : List (Fin 26)) (rs : List Row), vs = [.ref a, .str (dS ds), .ref b] ∧ PoolAt H a g ∧ H b = some (.lst (encR rs)) ∧ b ∉ [a, g] ∧ 1 ≤ ds.length ∧ ds.length ≤ 26 ∧ RowsOk ds rs 12 ∧ rs.length ≤ 100 ∧
  ∀ p den H', H p = none → 1 ≤ den.length → den.length ≤ 6 → RowsOk ds den 60 → PoolAt H' a g → Upto [a, g] H H' → H' p = some (.lst (encR den)) → Q (.ref p) H'
theorem ok__law_denied (T : Top K mg) : FnOk P w K mg base CX0 4 T.d__law_denied.f T.d__law_denied.d ["_law_pool_here", "_law_deeds_here", "_law_rows_here"] spDen := by
  refine T.d__law_denied.F.ok sc__law_denied (fun vs H Q E h => ?_) (fun cdv A outer s H vs Q E hr h => ?_)
  · obtain ⟨a, g, b, ds, rs, rfl, _⟩ := h
    rfl
  · obtain ⟨a, g, b, ds, rs, rfl, hP, hb, hbn, hd1, hd2, hro, hrl, q⟩ := h
    have hu := hu_of hr
    refine ⟨_,
      (pss_cons (ps_set (i := 3) sc__law_denied.nd rfl (Or.inl rfl) (pe_lst pa_nil))
      (pss_cons (ps_for PassesOwn.never rfl (pi_range1 (by rfl) T.z_range (pa_cons (pe_op op_add pe_int (pe_call (ok__law_draw T) (hr.mono (by decide)) (by rfl) T.d__law_draw.g T.d__law_draw.F.kp T.d__law_draw.b .nil pass0 (pa_cons (pv 0) (pa_cons pe_int pa_nil)))) pa_nil)) (pg_name (i := 4) sc__law_denied.nd rfl (Or.inl rfl))
      (pss_cons (ps_set (i := 5) sc__law_denied.nd rfl (Or.inl rfl) (pe_call (ok__law_draw T) (hr.mono (by decide)) (by rfl) T.d__law_draw.g T.d__law_draw.F.kp T.d__law_draw.b .nil pass0 (pa_cons (pv 0) (pa_cons pe_int pa_nil))))
      (pss_cons (ps_set (i := 6) sc__law_denied.nd rfl (Or.inl rfl) (pe_call (ok__law_word T) (hr.mono (by decide)) (by rfl) T.d__law_word.g T.d__law_word.F.kp T.d__law_word.b .nil pass0 (pa_cons (pv 0) (pa_cons (pv 1) (pa_cons pe_int pa_nil)))))
      (C8.pss_cut (ps_if (pt_cmpR op_eq (pv 5) pe_int (nomark _))
      (pss_one (ps_set (i := 6) sc__law_denied.nd rfl (Or.inl rfl) (pe_op op_add_str (pe_call (ok__law_product T) (hr.mono (by decide)) (by rfl) T.d__law_product.g T.d__law_product.F.kp T.d__law_product.b .nil pass0 (pa_cons (pv 0) (pa_cons (pv 2) (pa_cons pe_int pa_nil)))) (pe_slice sl_str (pv 6) po_none (po_some pe_int)))))
      pss_nil)
      (C8.pss_cut (ps_if (PW.pt (pw_and (pt_cmpR op_eq (pv 5) pe_int (nomark _)) (pw_and1 (pt_cmpR op_gt (pe_callB call_len_seq (by rfl) T.z_len (by decide +kernel) (pa_cons (pv 3) pa_nil)) pe_int (nomark _)))))
      (pss_one (ps_set (i := 6) sc__law_denied.nd rfl (Or.inl rfl) (pe_op op_add_str (pe_slice sl_str (pe_ix ix_list (pv 3) (pe_call (ok__law_draw T) (hr.mono (by decide)) (by rfl) T.d__law_draw.g T.d__law_draw.F.kp T.d__law_draw.b .nil pass0 (pa_cons (pv 0) (pa_cons (pe_callB call_len_seq (by rfl) T.z_len (by decide +kernel) (pa_cons (pv 3) pa_nil)) pa_nil))) (fun _ _ => rfl)) po_none (po_some pe_int)) (pe_slice sl_str (pv 6) po_none (po_some pe_int)))))
      pss_nil)
      (C8.pss_cut (ps_if (pt_cmpR op_eq (pv 5) pe_int (nomark _))
      (pss_one (ps_set (i := 6) sc__law_denied.nd rfl (Or.inl rfl) (pe_op op_repS (pe_slice sl_str (pv 6) po_none (po_some pe_int)) (pe_op op_add pe_int (pe_call (ok__law_draw T) (hr.mono (by decide)) (by rfl) T.d__law_draw.g T.d__law_draw.F.kp T.d__law_draw.b .nil pass0 (pa_cons (pv 0) (pa_cons pe_int pa_nil)))))))
      pss_nil)
      (C8.pss_cut (ps_if (pt_cmpR op_eq (pv 5) pe_int (nomark _))
      (pss_one (ps_set (i := 6) sc__law_denied.nd rfl (Or.inl rfl) (pe_call (ok__law_word T) (hr.mono (by decide)) (by rfl) T.d__law_word.g T.d__law_word.F.kp T.d__law_word.b .nil pass0 (pa_cons (pv 0) (pa_cons (pv 1) (pa_cons pe_int pa_nil))))))
      pss_nil)
      (C8.pss_cut (ps_if (PW.pt (pw_and (pt_cmpR op_eq (pv 5) pe_int (nomark _)) (pw_and1 (pt_cmpR op_eq (pe_call (ok__law_draw T) (hr.mono (by decide)) (by rfl) T.d__law_draw.g T.d__law_draw.F.kp T.d__law_draw.b .nil pass0 (pa_cons (pv 0) (pa_cons pe_int pa_nil))) pe_int (nomark _)))))
      (pss_one (ps_set (i := 6) sc__law_denied.nd rfl (Or.inl rfl) (pe_call (ok__law_product T) (hr.mono (by decide)) (by rfl) T.d__law_product.g T.d__law_product.F.kp T.d__law_product.b .nil pass0 (pa_cons (pv 0) (pa_cons (pv 2) (pa_cons pe_int pa_nil))))))
      pss_nil)
      (pss_one (ps_expr (pe_bm PySem.F.plainAttrs_list PySem.F.slot_list_append PySem.F.type_list_append mt_append (pv 3) (pa_cons (pe_slice sl_str (pv 6) po_none (po_some pe_int)) pa_nil))))))))))))
      (pss_one (ps_ret (pv 3)))))
      , ?_⟩
    refine ⟨(by show 0 ≤ sizeLine; decide), fun p hp => ?_⟩
    have pn : p ∉ [a, g] := hP.out hp
    have pb : p ≠ b := by rintro rfl; rw [hp] at hb; cases hb
    have u1 : Upto [a, g] H (upd H p (.lst [])) := upto_new (Upto.refl _ _) hp
    refine ⟨_, rfl, a, g, 6, rfl, hP.put pn, by omega, by omega, fun c H2 hc hP2 u2 => ?_⟩
    refine ⟨_, _, rfl, rfl, 1 + c, rfl, by omega, by omega, ?_⟩
    refine for_range (lo := 0) (n := 1 + c) (fun i σ H' => ∃ v4 v5 v6 fs, σ = [some (.ref a), some (.str (dS ds)), some (.ref b), some (.ref p), v4, v5, v6] ∧ fs.length = i ∧ RowsOk ds fs 60 ∧ PoolAt H' a g ∧ Upto [a, g] H H' ∧ H' p = some (.lst (encR fs)))
      ⟨none, none, none, [], rfl, rfl, fun r hr => by simp at hr, hP2, u1.trans u2, u2 _ _ upd_same pn⟩ ?_ ?_
    · rintro i σ H3 hi ⟨v4, v5, v6, fs, rfl, hfl, hfo, hP3, u3, gp3⟩
      have hil : i < 7 := by omega
      have enl : (encR fs).length = fs.length := List.length_map _
      have szr : ∀ r : Row, r.length ≤ 1000 → (rS r).length ≤ sizeLine := fun r h => by rw [rS_len]; exact Nat.le_of_lt (sz1M (by omega))
      refine ⟨_, rfl, a, g, 6, rfl, hP3, by omega, by omega, fun kd H4 hkd hP4 u4 => ?_⟩
      refine ⟨_, rfl, _, rfl, a, g, ds, 12, rfl, hP4, hd1, hd2, by omega, fun r H5 ho hrm hP5 u5 => ?_⟩
      have gp5 := u5 _ _ (u4 _ _ gp3 pn) pn
      have u35 := (u3.trans u4).trans u5
      generalize hmid : (fun σ H' => ∃ r : Row, σ = [some (.ref a), some (.str (dS ds)), some (.ref b), some (.ref p), some (.int (0 + (i : Nat))), some (.int kd), some (.str (rS r))] ∧ OverD ds r ∧ r.length ≤ 100 ∧ PoolAt H' a g ∧ Upto [a, g] H H' ∧ H' p = some (.lst (encR fs)) : L2.St → Hp → Prop) = mid
      have go : ∀ {σ H'} (r : Row), σ = [some (.ref a), some (.str (dS ds)), some (.ref b), some (.ref p), some (.int (0 + (i : Nat))), some (.int kd), some (.str (rS r))] → OverD ds r → r.length ≤ 100 → PoolAt H' a g → Upto [a, g] H H' → H' p = some (.lst (encR fs)) → mid σ H' := fun {σ H'} r h1 h2 h3 h4 h5 h6 => by rw [← hmid]; exact ⟨r, h1, h2, h3, h4, h5, h6⟩
      have out : ∀ {σ H'}, mid σ H' → ∃ r : Row, σ = [some (.ref a), some (.str (dS ds)), some (.ref b), some (.ref p), some (.int (0 + (i : Nat))), some (.int kd), some (.str (rS r))] ∧ OverD ds r ∧ r.length ≤ 100 ∧ PoolAt H' a g ∧ Upto [a, g] H H' ∧ H' p = some (.lst (encR fs)) := fun {σ H'} h => by rw [← hmid] at h; exact h
      clear hmid
      -- kind 0
      refine ⟨mid, ?_, ?_⟩
      · refine ⟨_, rfl, rfl, _, rfl, ?_⟩
        refine ite2 (fun h => ?_) (fun h => ?_)
        · refine ⟨_, rfl, _, rfl, a, g, b, ds, rs, 4, rfl, hP5, u35 _ _ hb hbn, hbn, hro, hrl, by omega, fun r2 H6 hP6 u6 ho2 hl2 _ => ?_⟩
          refine ⟨_, rfl, 2, rfl, _, rfl, szr r (by omega), ?_⟩
          rw [show cutS (rS r) none (some 2) = rS (r.take 2) from cut_to _ 2]
          refine ⟨_, _, rfl, rfl, ?_, ?_⟩
          · rw [rS_len, rS_len, List.length_take]
            have : r2.length + min 2 r.length < sizeLine := sz1M (by omega)
            omega
          rw [rS_append]
          exact go _ rfl (ho2.app (ho.take 2)) (by rw [List.length_append, List.length_take]; omega) hP6 (u35.trans u6) (u6 _ _ gp5 pn)
        · exact go r rfl ho (by omega) hP5 u35 gp5
      clear hP3 u3 gp3 hP4 u4 hP5 u5 gp5 u35 hrm ho
      rintro σ H5 hmid
      obtain ⟨r, rfl, ho, hrm, hP5, u35, gp5⟩ := out hmid
      clear hmid
      -- kind 1
      refine ⟨mid, ?_, ?_⟩
      · refine ⟨_, rfl, rfl, _, rfl, ?_⟩
        refine ite2 (fun h => ?_) (fun h => ?_)
        · refine ⟨_, rfl, p, _, rfl, .inl (SqL.of gp5), _, _, rfl, rfl, _, rfl, ?_⟩
          refine ite2 (fun h2 => ?_) (fun h2 => ?_)
          · have h3 : 0 < fs.length := by
              have := of_decide_eq_true h2
              rw [enl] at this
              omega
            refine ⟨_, rfl, _, rfl, _, rfl, p, _, rfl, .inl (SqL.of gp5), a, g, fs.length, by rw [enl]; rfl, hP5, h3, by omega, fun j H6 hj hP6 u6 => ?_⟩
            have gp6 := u6 _ _ gp5 pn
            have gat : atI (encR fs) (j : Int) = some (.str (rS fs[j])) := atI_nat (by unfold encR; rw [List.getElem?_map, List.getElem?_eq_getElem hj]; rfl)
            obtain ⟨o1, o2⟩ := hfo fs[j] (List.getElem_mem hj)
            refine ⟨p, _, _, _, rfl, rfl, SqL.of gp6, gat, 50, rfl, _, rfl, szr _ (by omega), ?_⟩
            rw [show cutS (rS fs[j]) none (some 50) = rS (fs[j].take 50) from cut_to _ 50]
            refine ⟨_, rfl, 4, rfl, _, rfl, szr r (by omega), ?_⟩
            rw [show cutS (rS r) none (some 4) = rS (r.take 4) from cut_to _ 4]
            refine ⟨_, _, rfl, rfl, ?_, ?_⟩
            · rw [rS_len, rS_len, List.length_take, List.length_take]
              have : min 50 fs[j].length + min 4 r.length < sizeLine := sz1M (by omega)
              omega
            rw [rS_append]
            exact go _ rfl ((o1.take 50).app (ho.take 4)) (by rw [List.length_append, List.length_take, List.length_take]; omega) hP6 (u35.trans u6) gp6
          · exact go r rfl ho (by omega) hP5 u35 gp5
        · exact iteF (go r rfl ho (by omega) hP5 u35 gp5)
      clear hP5 u35 gp5 hrm ho
      rintro σ H5 hmid
      obtain ⟨r, rfl, ho, hrm, hP5, u35, gp5⟩ := out hmid
      clear hmid
      -- kind 2
      refine ⟨mid, ?_, ?_⟩
      · refine ⟨_, rfl, rfl, _, rfl, ?_⟩
        refine ite2 (fun h => ?_) (fun h => ?_)
        · refine ⟨_, rfl, 3, rfl, _, rfl, szr r (by omega), ?_⟩
          rw [show cutS (rS r) none (some 3) = rS (r.take 3) from cut_to _ 3]
          refine ⟨_, rfl, a, g, 20, rfl, hP5, by omega, by omega, fun j H6 hj hP6 u6 => ?_⟩
          have h4 : (List.replicate (1 + j) (r.take 3)).flatten.length ≤ 60 := by
            simp only [List.length_flatten, List.map_replicate, List.sum_replicate_nat, List.length_take]
            have : (1 + j) * min 3 r.length ≤ 20 * 3 := Nat.mul_le_mul (by omega) (by omega)
            omega
          refine ⟨_, _, rfl, rfl, r.take 3, 1 + j, rfl, ?_, ?_⟩
          · show V.int (1 + (j : Int)) = V.int ((1 + j : Nat) : Int)
            rw [Int.natCast_add]
            rfl
          refine ⟨by omega, by rw [List.length_take]; omega, ?_⟩
          refine go _ rfl (fun x hx => ?_) (by omega) hP6 (u35.trans u6) (u6 _ _ gp5 pn)
          obtain ⟨l, hl, hx⟩ := List.mem_flatten.mp hx
          rw [(List.mem_replicate.mp hl).2] at hx
          exact (ho.take 3) x hx
        · exact go r rfl ho (by omega) hP5 u35 gp5
      clear hP5 u35 gp5 hrm ho
      rintro σ H5 hmid
      obtain ⟨r, rfl, ho, hrm, hP5, u35, gp5⟩ := out hmid
      clear hmid
      -- kind 3
      refine ⟨mid, ?_, ?_⟩
      · refine ⟨_, rfl, rfl, _, rfl, ?_⟩
        refine ite2 (fun h => ?_) (fun h => ?_)
        · refine ⟨_, rfl, _, rfl, a, g, ds, 60, rfl, hP5, hd1, hd2, by omega, fun r2 H6 ho2 hl2 hP6 u6 => ?_⟩
          exact go r2 rfl ho2 (by omega) hP6 (u35.trans u6) (u6 _ _ gp5 pn)
        · exact go r rfl ho (by omega) hP5 u35 gp5
      clear hP5 u35 gp5 hrm ho
      rintro σ H5 hmid
      obtain ⟨r, rfl, ho, hrm, hP5, u35, gp5⟩ := out hmid
      clear hmid
      -- kind 4
      refine ⟨mid, ?_, ?_⟩
      · refine ⟨_, rfl, rfl, _, rfl, ?_⟩
        refine ite2 (fun h => ?_) (fun h => ?_)
        · refine ⟨_, rfl, a, g, 4, rfl, hP5, by omega, by omega, fun j H6 hj hP6 u6 => ?_⟩
          refine ⟨rfl, _, rfl, ?_⟩
          refine ite2 (fun h2 => ?_) (fun h2 => ?_)
          · refine ⟨_, rfl, _, rfl, a, g, b, ds, rs, 3, rfl, hP6, (u35.trans u6) _ _ hb hbn, hbn, hro, hrl, by omega, fun r2 H7 hP7 u7 ho2 hl2 _ => ?_⟩
            exact go r2 rfl ho2 (by omega) hP7 ((u35.trans u6).trans u7) (u7 _ _ (u6 _ _ gp5 pn) pn)
          · exact go r rfl ho (by omega) hP6 (u35.trans u6) (u6 _ _ gp5 pn)
        · exact iteF (go r rfl ho (by omega) hP5 u35 gp5)
      clear hP5 u35 gp5 hrm ho
      rintro σ H5 hmid
      obtain ⟨r, rfl, ho, hrm, hP5, u35, gp5⟩ := out hmid
      clear hmid
      refine ⟨_, rfl, .inl ⟨rfl, _, SqL.of gp5⟩, _, rfl, 60, rfl, _, rfl, szr r (by omega), ?_⟩
      rw [show cutS (rS r) none (some 60) = rS (r.take 60) from cut_to _ 60]
      refine ⟨p, _, _, rfl, rfl, gp5, sz1M (by rw [enl]; omega), ?_⟩
      refine ⟨_, _, _, fs ++ [r.take 60], rfl, by simp [hfl], fun r' hr' => ?_, hP5.put pn, upto_new u35 hp, ?_⟩
      · rcases List.mem_append.mp hr' with z | z
        · exact hfo r' z
        · rw [List.mem_singleton.mp z]
          exact ⟨ho.take 60, by rw [List.length_take]; omega⟩
      · rw [upd_same]
        simp [encR]
    · rintro σ H3 ⟨v4, v5, v6, fs, rfl, hfl, hfo, hP3, u3, gp3⟩
      exact ⟨_, rfl, q p fs H3 hp (by omega) (by omega) hfo hP3 u3 gp3⟩
end
end Rb
/-! What home's world does with rows. -/
namespace Rb
set_option linter.all false
set_option maxRecDepth 100000
set_option maxHeartbeats 4000000
open PySem PySem.Spec PyProof.Rows L2
theorem pool_out {H : Hp} {a g b : Addr} {o : HO} (hP : PoolAt H a g) (hb : H b = some o) (ho : ∀ xs, o ≠ .lst xs) : b ∉ [a, g] := by
  obtain ⟨n, sd, ct, gs, h1, h2⟩ := hP
  intro hm
  rcases List.mem_cons.mp hm with rfl | hm
  · rw [hb] at h1
    exact ho _ (Option.some.inj h1)
  · rw [List.mem_singleton.mp hm, h2] at hb
    exact ho _ (Option.some.inj hb).symm
theorem AllAt.upto {H H' : Hp} {a p g : Addr} {ds : List (Fin 26)} {f : Lt → List Nat} (h : AllAt H a ds f) (hP : PoolAt H p g) (u : Upto [p, g] H H') : AllAt H' a ds f := by
  obtain ⟨kvs, h1, h2⟩ := h
  refine ⟨kvs, u _ _ h1 (pool_out hP h1 fun _ z => by cases z), fun d hd => ?_⟩
  obtain ⟨t, g1, g2⟩ := h2 d hd
  exact ⟨t, g1, u _ _ g2 (pool_out hP g2 fun _ z => by cases z)⟩
theorem WorldAt.upto {K : PySem.W.Frag} {C : Addr} {H H' : Hp} {p a g : Addr} {ds : List (Fin 26)} {m : Wd} (h : WorldAt K C H p ds m) (hP : PoolAt H a g) (u : Upto [a, g] H H') : WorldAt K C H' p ds m := by
  obtain ⟨o, z, dx, x, y, h1, h2, h3⟩ := h
  exact ⟨o, z, dx, x, y, u _ _ h1 (pool_out hP h1 fun _ z => by cases z), h2.upto hP u, h3.upto hP u⟩
theorem homeB_iff {m : Wd} {rs den : List Row} : isHomeB m rs den = true ↔ (∀ r ∈ rs, goM m 0 r = 0) ∧ ∀ r ∈ den, goM m 0 r ≠ 0 := decide_eq_true_iff
theorem growA_app : ∀ (a b : List Row) (g : Gw), growA g (a ++ b) = growA (growA g a) b
  | [], _, _ => rfl
  | r :: a, b, g => growA_app a b (growR g 0 (net r)).1
theorem le_lsum : ∀ {l : List Nat} {x : Nat}, x ∈ l → x ≤ l.sum
  | [], _, h => by simp at h
  | y :: l, x, h => by
    rw [List.sum_cons]
    rcases List.mem_cons.mp h with e | h
    · omega
    · have := le_lsum h
      omega
theorem grow_den {g : Gw} (h : GwOk g) (h0 : 0 < g.n) {den : List Row} {r : Row} (hr : r ∈ den) : ∃ e, Walk (growA g den).W 0 (net r) e ∧ (e = 0 → walkD (stepsD g.W) 0 (net r) = some 0) := by
  obtain ⟨pre, post, rfl⟩ := List.append_of_mem hr
  obtain ⟨a1, a2, _⟩ := growA_ok (rs := pre) (m := (pre.map List.length).sum) h h0 fun s hs => le_lsum (List.mem_map_of_mem hs)
  obtain ⟨b1, b2, b3, _⟩ := growR_ok (r := net r) (p := 0) a1.ok a2
  obtain ⟨c1, _⟩ := growA_ok (rs := post) (m := (post.map List.length).sum) b1.ok (Nat.lt_of_lt_of_le a2 b1.le) fun s hs => le_lsum (List.mem_map_of_mem hs)
  rw [growA_app]
  refine ⟨_, walk_sub (fun p x q s => st_sub c1.sub s) b3, fun e => ?_⟩
  exact (grow_home h a1 h0 r).mp e
structure HomeFacts (ds : List (Fin 26)) (rs den : List Row) (m : Wd) : Prop where
  ok : WdOk m ds
  size : m.size ≤ 200000
  made : ∀ r, OverD ds r → Gen rs r → goM m 0 r = 0
  den : ∀ r ∈ den, goM m 0 r ≠ 0
theorem home_facts {ds : List (Fin 26)} {rs den : List Row} {W : WebD} (hI : IsWeb (lets ds) rs W) (hok : WebOk W) (hwl : W.ways.length ≤ 100) (hsz : W.size ≤ 1000) (hden : ∀ r ∈ den, OverD ds r) (hd60 : den.length ≤ 6 ∧ ∀ r ∈ den, r.length ≤ 60) (hno : ∀ r ∈ den, keptB W.ways r = false) : HomeFacts ds rs den (homeW W den) := by
  have g0 : GwOk ⟨W.size, W.ways⟩ := ⟨hI.det, hok.lt⟩
  obtain ⟨a1, a2, a3, _⟩ := growA_ok (rs := den) (m := 60) g0 hok.pos fun s hs => hd60.2 s hs
  have D := a1.ok.det
  have ext : Ext (growA ⟨W.size, W.ways⟩ den).W (homeW W den) := fill_ext D a2 a1.ok.lt
  have wok : WdOk (homeW W den) ds := fill_ok D a2 a1.ok.lt ds
  have over : ∀ {r}, OverD ds r → ∀ x ∈ r, x.d ∈ ds := fun h x hx => lets_d (h x hx)
  refine ⟨wok, ?_, fun r ho hg => ?_, fun r hr => ?_⟩
  · show (growA ⟨W.size, W.ways⟩ den).n ≤ 200000
    have : 60 * den.length ≤ 360 := by have := hd60.1; omega
    simp only at a3
    omega
  · rw [← goM_net wok (over ho) wok.pos]
    refine ext.walk ?_
    exact walk_sub (fun p x q s => st_sub a1.sub s) ((hI.keeps r).mpr hg)
  · obtain ⟨e, h1, h2⟩ := grow_den g0 hok.pos hr
    rw [← goM_net wok (over (hden r hr)) wok.pos, ext.walk h1]
    intro z
    have := hno r hr
    unfold keptB at this
    exact absurd (h2 z) (of_decide_eq_false this)
end Rb
/-! A told home judged with more and fewer rows. -/
namespace Rb
set_option linter.all false
set_option maxRecDepth 100000
set_option maxHeartbeats 4000000
open PySem PySem.Spec PyProof.Rows L2
section
variable {P : Program} {w : World} {K : PySem.W.Frag} {mg : Str → Option Value} {base : Heap}
def spFits (K : PySem.W.Frag) (C : Addr) : Sp := fun vs H Q _ => ∃ ds a b p rs den mr m, vs = [.str (dS ds), .ref a, .ref b, .str (rS mr), .ref p] ∧ H a = some (.lst (encR rs)) ∧ H b = some (.lst (encR den)) ∧ Asc ds ∧ MakesOk ds rs 5 10 ∧ DenOk ds den ∧ WorldAt K C H p ds m ∧
  OverD ds mr ∧ mr.length ≤ 60 ∧ goM m 0 mr = 0 ∧ isHomeB m rs den = true ∧ ∀ H', Q (.bl true) H'
theorem ok__law_fits (T : Top K mg) : FnOk P w K mg base CX0 8 T.d__law_fits.f T.d__law_fits.d ["_law_deeds_here", "_law_rows_here", "_law_denied_here", "_law_made", "_law_told"] (spFits K T.C_RawWorld) := by
  refine T.d__law_fits.F.ok sc__law_fits (fun vs H Q E h => ?_) (fun cdv A outer s H vs Q E hr h => ?_)
  · obtain ⟨ds, a, b, p, rs, den, mr, m, rfl, _⟩ := h
    rfl
  · obtain ⟨ds, a, b, p, rs, den, mr, m, rfl, ha, hb, hA, ⟨hm1, hm2⟩, ⟨hd1, hd2⟩, hW, ho, hml, hm0, hB, q⟩ := h
    have hu := hu_of hr
    refine ⟨_,
      (pss_cons (ps_if (PW.pt (pw_or (pt_cmpR op_notBl (pe_call (ok_is_home T) (hr.mono (by decide)) (by rfl) T.d_is_home.g T.d_is_home.F.kp T.d_is_home.b .nil pass0 (pa_cons (pv 0) (pa_cons (pv 1) (pa_cons (pv 2) (pa_cons (pv 4) pa_nil))))) pe_bl (nomark _)) (pw_or1 (pt_cmpR op_notBl (pe_call (ok_is_home T) (hr.mono (by decide)) (by rfl) T.d_is_home.g T.d_is_home.F.kp T.d_is_home.b .nil pass0 (pa_cons (pv 0) (pa_cons (pe_slice sl_list (pv 1) (po_some pe_int) po_none) (pa_cons (pv 2) (pa_cons (pv 4) pa_nil))))) pe_bl (nomark _)))))
      (pss_one (ps_ret pe_bl))
      pss_nil)
      (pss_cons (ps_if (PW.pt (pw_or (pt_cmpR op_notBl (pe_call (ok_is_home T) (hr.mono (by decide)) (by rfl) T.d_is_home.g T.d_is_home.F.kp T.d_is_home.b .nil pass0 (pa_cons (pv 0) (pa_cons (pv 1) (pa_cons (pe_slice sl_list (pv 2) (po_some pe_int) po_none) (pa_cons (pv 4) pa_nil))))) pe_bl (nomark _)) (pw_or1 (pt_cmpR op_notBl (pe_call (ok_is_home T) (hr.mono (by decide)) (by rfl) T.d_is_home.g T.d_is_home.F.kp T.d_is_home.b .nil pass0 (pa_cons (pv 0) (pa_cons (pv 1) (pa_cons (pe_lst pa_nil) (pa_cons (pv 4) pa_nil))))) pe_bl (nomark _)))))
      (pss_one (ps_ret pe_bl))
      pss_nil)
      (pss_cons (ps_if (pt_cmpR op_notBl (pe_call (ok_is_home T) (hr.mono (by decide)) (by rfl) T.d_is_home.g T.d_is_home.F.kp T.d_is_home.b .nil pass0 (pa_cons (pv 0) (pa_cons (pv 1) (pa_cons (pe_op op_cat (pe_slice sl_list (pv 2) po_none (po_some pe_int)) (pe_lst (pa_cons (pv 3) pa_nil))) (pa_cons (pv 4) pa_nil))))) pe_bl (nomark _))
      (pss_one (ps_ret pe_bl))
      pss_nil)
      (pss_cons (ps_setLc (i := 5) (own := [("_law_row", 6)]) (g := (gName 6)) rfl sc__law_fits.nd rfl rfl (sw_true rfl rfl rfl (by decide +kernel)) (pi_list (pv 2)) (blkOk_by (N := N__law_fits) (sc := defScope s__law_fits) (by decide +kernel)) (fun _ _ _ _ _ => (pg_name (i := 6) sc__law_fits.nd rfl (Or.inl rfl))) (fun _ _ _ _ _ => (pts_one (pt_cmpR op_lt (pe_callB call_len_str (by rfl) T.z_len (by decide +kernel) (pa_cons (pv 6) pa_nil)) pe_int (nomark _)))) (fun _ _ _ _ _ => (pv 6)))
      (pss_one (ps_ret (pe_or (pe_cmpR op_eq (pe_callB call_len_seq (by rfl) T.z_len (by decide +kernel) (pa_cons (pv 5) pa_nil)) pe_int (nomark _)) (pe_one (pe_cmpR op_isBl (pe_call (ok_is_home T) (hr.mono (by decide)) (by rfl) T.d_is_home.g T.d_is_home.F.kp T.d_is_home.b .nil pass0 (pa_cons (pv 0) (pa_cons (pe_op op_cat (pv 1) (pe_slice sl_list (pv 5) po_none (po_some pe_int))) (pa_cons (pv 2) (pa_cons (pv 4) pa_nil))))) pe_bl (nomark _))))))))))
      , ?_⟩
    obtain ⟨hB1, hB2⟩ := homeB_iff.mp hB
    have M6 : MakesOk ds rs 6 12 := ⟨by omega, fun r hr => ⟨(hm2 r hr).1, by have := (hm2 r hr).2; omega⟩⟩
    have D6 : DenOk ds den := ⟨hd1, hd2⟩
    refine ⟨_, rfl, _, rfl, _, rfl, _, rfl, ds, a, b, p, rs, den, m, rfl, .inl ha, .inl hb, hA, M6, D6, hW, fun H1 s1 => ?_⟩
    rw [hB]
    refine ⟨true, true, rfl, rfl, _, rfl, ?_⟩
    refine iteF ?_
    have ha1 := s1 _ _ ha
    have hb1 := s1 _ _ hb
    have Md : MakesOk ds (rs.drop 1) 6 12 := ⟨by rw [List.length_drop]; omega, fun r hr => M6.2 r (List.mem_of_mem_drop hr)⟩
    have Dd : DenOk ds (den.drop 1) := ⟨by rw [List.length_drop]; omega, fun r hr => hd2 r (List.mem_of_mem_drop hr)⟩
    refine ⟨_, rfl, _, rfl, 1, rfl, a, _, rfl, SqL.of ha1, fun k1 hk1 => ?_⟩
    rw [show cutV (encR rs) (some 1) none = encR (rs.drop 1) from encR_from rs 1]
    have s2 := same_new hk1 (o := .lst (encR (rs.drop 1)))
    refine ⟨_, rfl, _, rfl, ds, k1, b, p, rs.drop 1, den, m, rfl, .inl upd_same, .inl (s2 _ _ hb1), hA, Md, D6, hW.same (s1.trans s2), fun H2 s3 => ?_⟩
    have hBd : isHomeB m (rs.drop 1) den = true := homeB_iff.mpr ⟨fun r hr => hB1 r (List.mem_of_mem_drop hr), hB2⟩
    rw [hBd]
    refine ⟨true, true, rfl, rfl, _, rfl, ?_⟩
    refine iteF ?_
    have t2 := (s1.trans s2).trans s3
    -- fewer denied
    refine ⟨_, rfl, _, rfl, _, rfl, 1, rfl, b, _, rfl, SqL.of (t2 _ _ hb), fun k2 hk2 => ?_⟩
    rw [show cutV (encR den) (some 1) none = encR (den.drop 1) from encR_from den 1]
    have s4 := same_new hk2 (o := .lst (encR (den.drop 1)))
    refine ⟨_, rfl, ds, a, k2, p, rs, den.drop 1, m, rfl, .inl (s4 _ _ (t2 _ _ ha)), .inl upd_same, hA, M6, Dd, hW.same (t2.trans s4), fun H3 s5 => ?_⟩
    have hBe : isHomeB m rs (den.drop 1) = true := homeB_iff.mpr ⟨hB1, fun r hr => hB2 r (List.mem_of_mem_drop hr)⟩
    rw [hBe]
    refine ⟨true, true, rfl, rfl, _, rfl, ?_⟩
    refine iteF ?_
    have t3 := (t2.trans s4).trans s5
    refine ⟨_, rfl, _, rfl, (by show 0 ≤ sizeLine; decide), fun k3 hk3 => ?_⟩
    have s6 := same_new hk3 (o := .lst [])
    refine ⟨_, rfl, ds, a, k3, p, rs, [], m, rfl, .inl (s6 _ _ (t3 _ _ ha)), .inl upd_same, hA, M6, ⟨by simp, fun r hr => by simp at hr⟩, hW.same (t3.trans s6), fun H4 s7 => ?_⟩
    have hBn : isHomeB m rs [] = true := homeB_iff.mpr ⟨hB1, fun r hr => by simp at hr⟩
    rw [hBn]
    refine ⟨true, true, rfl, rfl, _, rfl, ?_⟩
    refine iteF ?_
    have t4 := (t3.trans s6).trans s7
    refine ⟨_, rfl, _, rfl, _, rfl, 5, rfl, b, _, rfl, SqL.of (t4 _ _ hb), fun k4 hk4 => ?_⟩
    rw [show cutV (encR den) none (some 5) = encR (den.take 5) from encR_to den 5]
    have s8 := same_new hk4 (o := .lst (encR (den.take 5)))
    refine ⟨_, rfl, (by show 1 ≤ sizeLine; decide), fun k5 hk5 => ?_⟩
    have s9 := same_new hk5 (o := .lst [.str (rS mr)])
    refine ⟨k4, k5, _, _, rfl, rfl, s9 _ _ upd_same, upd_same, ?_, fun k6 hk6 => ?_⟩
    · rw [encR_len, List.length_take]
      exact Nat.le_of_lt (sz1M (by simp only [List.length_cons, List.length_nil]; omega))
    have ec : encR (den.take 5) ++ [V.str (rS mr)] = encR (den.take 5 ++ [mr]) := by
      unfold encR
      rw [List.map_append]
      rfl
    rw [ec]
    have s10 := same_new hk6 (o := .lst (encR (den.take 5 ++ [mr])))
    have t5 := ((t4.trans s8).trans s9).trans s10
    have Dm : DenOk ds (den.take 5 ++ [mr]) := ⟨by rw [List.length_append, List.length_take]; simp only [List.length_cons, List.length_nil]; omega, fun r hr => by
      rcases List.mem_append.mp hr with z | z
      · exact hd2 r (List.mem_of_mem_take z)
      · rw [List.mem_singleton.mp z]
        exact ⟨ho, hml⟩⟩
    refine ⟨_, rfl, ds, a, k6, p, rs, den.take 5 ++ [mr], m, rfl, .inl (t5 _ _ ha), .inl upd_same, hA, M6, Dm, hW.same t5, fun H5 s11 => ?_⟩
    have hBm : isHomeB m rs (den.take 5 ++ [mr]) = false := decide_eq_false fun z => z.2 mr (by simp) hm0
    rw [hBm]
    refine ⟨false, false, rfl, rfl, _, rfl, ?_⟩
    refine iteF ?_
    have t6 := t5.trans s11
    have hb6 := t6 _ _ hb
    refine ⟨_, rfl, b, rfl, ⟨_, SqL.of hb6⟩, fun D hD => ?_⟩
    refine lc_dl (K := K) (xs := encR den) (ds := den) (List.length_map _) (fun pre H' => Same H5 H' ∧ H' D = some (.lst (encR (pre.filter fun r => decide (r.length < 13))))) ⟨same_new hD, upd_same⟩ (fun pre H' h => SqL.of (h.1 _ _ hb6)) ?_ ?_
    · rintro pre r post x H' e hx ⟨s12, gD⟩
      have ex := encR_at e hx
      subst ex
      have hr60 := (hd2 r (by rw [e]; simp)).2
      have hpre : pre.length ≤ 6 := by
        have := congrArg List.length e
        simp at this
        omega
      have hfl := List.length_filter_le (fun r : Row => decide (r.length < 13)) pre
      refine ⟨rfl, _, rfl, _, rfl, by rw [rS_len]; exact Nat.le_of_lt (sz1M (by omega)), _, _, rfl, rfl, _, rfl, ?_⟩
      rw [show decide (((rS r).length : Int) < 13) = decide (r.length < 13) from by rw [rS_len]; exact decide_eq_decide.mpr (by omega)]
      by_cases c : r.length < 13
      · rw [decide_eq_true c]
        refine iteT ?_
        refine ⟨_, rfl, _, gD, sz1M (by rw [encR_len]; omega), same_mut s12 hD, ?_⟩
        rw [upd_same, List.filter_append]
        simp [encR, c]
      · rw [decide_eq_false c]
        refine iteF ?_
        refine ⟨s12, ?_⟩
        rw [gD, List.filter_append]
        simp [c]
    · rintro H6 ⟨s12, gD⟩
      generalize hsh : (den.filter fun r => decide (r.length < 13)) = sh at *
      have t7 := t6.trans s12
      have hshm : ∀ r ∈ sh, r ∈ den ∧ r.length < 13 := fun r hr => by
        rw [← hsh] at hr
        obtain ⟨h1, h2⟩ := List.mem_filter.mp hr
        exact ⟨h1, of_decide_eq_true h2⟩
      refine ⟨_, rfl, D, _, rfl, .inl (SqL.of gD), rfl, ?_⟩
      refine ⟨_, rfl, ?_⟩
      by_cases c : sh = []
      · rw [show decide (V.int ((encR sh).length : Nat) = V.int 0) = true by rw [c]; rfl]
        refine iteT ?_
        exact q H6
      · have hc : ¬ (encR sh).length = 0 := by
          rw [encR_len]
          exact fun z => c (List.length_eq_zero_iff.mp z)
        rw [show decide (V.int ((encR sh).length : Nat) = V.int 0) = false from decide_eq_false fun z => hc (by have := V.int.inj z; omega)]
        refine iteF ?_
        refine ⟨_, rfl, _, rfl, _, rfl, 1, rfl, D, _, rfl, SqL.of gD, fun k7 hk7 => ?_⟩
        rw [show cutV (encR sh) none (some 1) = encR (sh.take 1) from encR_to sh 1]
        have s13 := same_new hk7 (o := .lst (encR (sh.take 1)))
        refine ⟨a, k7, _, _, rfl, rfl, s13 _ _ (t7 _ _ ha), upd_same, ?_, fun k8 hk8 => ?_⟩
        · rw [encR_len, encR_len, List.length_take]
          exact Nat.le_of_lt (sz1M (by omega))
        have ec2 : encR rs ++ encR (sh.take 1) = encR (rs ++ sh.take 1) := by
          unfold encR
          rw [List.map_append]
        rw [ec2]
        have s14 := same_new hk8 (o := .lst (encR (rs ++ sh.take 1)))
        have t8 := (t7.trans s13).trans s14
        obtain ⟨r0, hr0⟩ : ∃ r0, r0 ∈ sh.take 1 := by
          cases hs : sh with
          | nil => exact absurd hs c
          | cons r0 t => exact ⟨r0, by simp⟩
        have Mm : MakesOk ds (rs ++ sh.take 1) 6 12 := ⟨by rw [List.length_append, List.length_take]; omega, fun r hr => by
          rcases List.mem_append.mp hr with z | z
          · exact M6.2 r z
          · obtain ⟨h1, h2⟩ := hshm r (List.mem_of_mem_take z)
            exact ⟨(hd2 r h1).1, by omega⟩⟩
        refine ⟨_, rfl, _, rfl, ds, k8, b, p, rs ++ sh.take 1, den, m, rfl, .inl upd_same, .inl (t8 _ _ hb), hA, Mm, D6, hW.same t8, fun H7 s15 => ?_⟩
        have hBs : isHomeB m (rs ++ sh.take 1) den = false := decide_eq_false fun z => hB2 r0 (hshm r0 (List.mem_of_mem_take hr0)).1 (z.1 r0 (List.mem_append_right _ hr0))
        rw [hBs]
        exact ⟨false, false, rfl, rfl, q H7⟩
end
end Rb
/-! The earliest nets make a tree; the basis is free. -/
namespace Rb
set_option linter.all false
/-- f tells a row for each place, the one before's with a letter behind -/
structure Tree (W : List Way) (N : Nat) (f : Nat → Row) : Prop where
  base : f 0 = []
  from_ : ∀ q, q < N → q ≠ 0 → ∃ p x, p < N ∧ St W p x q ∧ f q = f p ++ [x]
  near : ∀ p x q, p < N → St W p x q → (f q).length ≤ (f p).length + 1
theorem rowAt_eq {R : List PR} (hn : (R.map (·.1)).Nodup) {q : Nat} {r : Row} (h : (q, r) ∈ R) : rowAt R q = r := by
  have h1 : (q, rowAt R q) ∈ R := rowAt_mem (List.mem_map.mpr ⟨_, h, rfl⟩)
  obtain ⟨i, hi⟩ := List.mem_iff_getElem?.mp h
  obtain ⟨j, hj⟩ := List.mem_iff_getElem?.mp h1
  have hi2 : (R.map (·.1))[i]? = some q := by rw [List.getElem?_map, hi]; rfl
  have hj2 : (R.map (·.1))[j]? = some q := by rw [List.getElem?_map, hj]; rfl
  have li := (List.getElem?_eq_some_iff.mp hi2).1
  have e : i = j := by
    refine (List.getElem?_inj li hn).mp ?_
    rw [hi2, hj2]
  subst e
  rw [hi] at hj
  cases hj
  rfl
theorem rowR_app {δ : Lt → Option Nat} {r : Row} : ∀ {ls : List Lt} {Q : List PR}, ∃ T, rowR δ r ls Q = Q ++ T ∧ ∀ t ∈ T, ∃ x ∈ ls, δ x = some t.1 ∧ t.2 = r ++ [x]
  | [], Q => ⟨[], by simp [rowR], by simp⟩
  | y :: ls, Q => by
    unfold rowR
    rw [List.foldl_cons]
    have up : ∀ {T : List PR}, (∀ t ∈ T, ∃ x ∈ ls, δ x = some t.1 ∧ t.2 = r ++ [x]) → ∀ t ∈ T, ∃ x ∈ y :: ls, δ x = some t.1 ∧ t.2 = r ++ [x] := fun h t ht => by
      obtain ⟨x, h1, h2⟩ := h t ht
      exact ⟨x, List.mem_cons_of_mem _ h1, h2⟩
    cases e : δ y with
    | none =>
      obtain ⟨T, h1, h2⟩ := rowR_app (δ := δ) (r := r) (ls := ls) (Q := Q)
      exact ⟨T, h1, up h2⟩
    | some g =>
      by_cases hg : g ∈ Q.map (·.1)
      · simp only [if_pos hg]
        obtain ⟨T, h1, h2⟩ := rowR_app (δ := δ) (r := r) (ls := ls) (Q := Q)
        exact ⟨T, h1, up h2⟩
      · simp only [if_neg hg]
        obtain ⟨T, h1, h2⟩ := rowR_app (δ := δ) (r := r) (ls := ls) (Q := Q ++ [(g, r ++ [y])])
        refine ⟨(g, r ++ [y]) :: T, ?_, ?_⟩
        · unfold rowR at h1
          rw [h1]
          simp
        · intro t ht
          rcases List.mem_cons.mp ht with h | h
          · rw [h]; exact ⟨y, by simp, e, rfl⟩
          · exact up h2 t h
/-- each entry but the first comes from another one -/
theorem bfsR_from {δ : Nat → Lt → Option Nat} {ls : List Lt} {i : Nat} {Q R : List PR} (h : BfsR δ ls i Q R) : (∀ e ∈ Q, e = (0, []) ∨ ∃ e' ∈ Q, ∃ x, δ e'.1 x = some e.1 ∧ e.2 = e'.2 ++ [x]) →
    ∀ e ∈ R, e = (0, []) ∨ ∃ e' ∈ R, ∃ x, δ e'.1 x = some e.1 ∧ e.2 = e'.2 ++ [x] := by
  induction h with
  | done _ => exact fun h => h
  | @more i e Q R hg _ ih =>
    intro hQ
    refine ih fun t ht => ?_
    obtain ⟨T, h1, h2⟩ := rowR_app (δ := δ e.1) (r := e.2) (ls := ls) (Q := Q)
    rw [h1] at ht ⊢
    rcases List.mem_append.mp ht with h | h
    · rcases hQ t h with h | ⟨e', k1, k2⟩
      · exact .inl h
      · exact .inr ⟨e', List.mem_append_left _ k1, k2⟩
    · obtain ⟨x, _, k1, k2⟩ := h2 t h
      exact .inr ⟨e, List.mem_append_left _ (List.mem_of_getElem? hg), x, k1, k2⟩
/-- entries come by length -/
theorem bfsR_near {δ : Nat → Lt → Option Nat} {ls : List Lt} {i : Nat} {Q R : List PR} (h : BfsR δ ls i Q R) : Q.Pairwise (fun a b => a.2.length ≤ b.2.length) → (∀ e, Q[i]? = some e → ∀ b ∈ Q, b.2.length ≤ e.2.length + 1) →
    (∀ j, j < i → ∀ e, Q[j]? = some e → ∀ x ∈ ls, ∀ q, δ e.1 x = some q → ∃ s, (q, s) ∈ Q ∧ s.length ≤ e.2.length + 1) →
    ∀ e ∈ R, ∀ x ∈ ls, ∀ q, δ e.1 x = some q → ∃ s, (q, s) ∈ R ∧ s.length ≤ e.2.length + 1 := by
  induction h with
  | done hl =>
    intro _ _ hN e he x hx q hq
    obtain ⟨j, hj⟩ := List.mem_iff_getElem?.mp he
    have := (List.getElem?_eq_some_iff.mp hj).1
    exact hN j (by omega) e hj x hx q hq
  | @more i e Q R hg _ ih =>
    intro hS hB hN
    obtain ⟨T, h1, h2⟩ := rowR_app (δ := δ e.1) (r := e.2) (ls := ls) (Q := Q)
    have hT : ∀ t ∈ T, t.2.length = e.2.length + 1 := fun t ht => by
      obtain ⟨x, _, _, k⟩ := h2 t ht
      rw [k, List.length_append]
      rfl
    have hBe := hB e hg
    have hi := (List.getElem?_eq_some_iff.mp hg).1
    have all : ∀ b ∈ Q ++ T, b.2.length ≤ e.2.length + 1 := fun b hb => by
      rcases List.mem_append.mp hb with h | h
      · exact hBe b h
      · exact Nat.le_of_eq (hT b h)
    have hS' : (Q ++ T).Pairwise (fun a b => a.2.length ≤ b.2.length) := by
      refine List.pairwise_append.mpr ⟨hS, ?_, fun a ha b hb => ?_⟩
      · exact List.pairwise_iff_getElem.mpr fun a b ha hb _ => by rw [hT _ (List.getElem_mem ha), hT _ (List.getElem_mem hb)]; exact Nat.le_refl _
      · rw [hT b hb]; exact hBe a ha
    rw [h1] at ih
    refine ih hS' (fun e1 he1 b hb => ?_) (fun j hj e1 he1 x hx q hq => ?_)
    · have h3 := all b hb
      have h4 : (Q ++ T)[i]? = some e := by rw [List.getElem?_append_left hi]; exact hg
      obtain ⟨l1, g1⟩ := List.getElem?_eq_some_iff.mp h4
      obtain ⟨l2, g2⟩ := List.getElem?_eq_some_iff.mp he1
      have := List.pairwise_iff_getElem.mp hS' i (i + 1) l1 l2 (by omega)
      rw [g1, g2] at this
      omega
    · by_cases hji : j = i
      · subst hji
        rw [List.getElem?_append_left hi, hg] at he1
        cases he1
        have hm : q ∈ (Q ++ T).map (·.1) := by
          rw [← h1, rowR_fst]
          exact rowOf_has hx hq
        obtain ⟨⟨q', s⟩, k1, k2⟩ := List.mem_map.mp hm
        simp only at k2
        subst k2
        exact ⟨s, k1, all _ k1⟩
      · have hlt : j < Q.length := by omega
        rw [List.getElem?_append_left hlt] at he1
        obtain ⟨s, k1, k2⟩ := hN j (by omega) e1 he1 x hx q hq
        exact ⟨s, List.mem_append_left _ k1, k2⟩
theorem tree_of {ls : List Lt} {w : WebD} {R : List PR} (hD : Det w.ways) (hr : Reach ls w) (hlt : ∀ v ∈ w.ways, v.1 < w.size ∧ v.2.2 < w.size) (hls : ∀ p x q, St w.ways p x q → x ∈ ls) (h0 : 0 < w.size) (hB : BfsR (stepsD w.ways) ls 0 [(0, [])] R) : Tree w.ways w.size (rowAt R) := by
  obtain ⟨nd, _, _, _⟩ := bfs_end hB.bfs (by simp) (by intro j p x g hj; omega)
  have F := fits_steps hD
  have inR : ∀ p, p < w.size → (p, rowAt R p) ∈ R := fun p hp => rowAt_mem (hr _ hB.bfs p hp)
  have h00 : (0, []) ∈ R := by
    have := inR 0 h0
    rcases bfsR_from hB (fun e he => .inl (by rw [List.mem_singleton.mp he])) _ this with h | ⟨e', k1, x, k2, k3⟩
    · rw [← h]; exact this
    · obtain ⟨T, hT⟩ : ∃ T, R = [(0, [])] ++ T := by
        have pre : ∀ {i : Nat} {Q R : List PR}, BfsR (stepsD w.ways) ls i Q R → ∃ T, R = Q ++ T := by
          intro i Q R h
          induction h with
          | done _ => exact ⟨[], by simp⟩
          | @more i e Q R hg _ ih =>
            obtain ⟨T, hT⟩ := ih
            obtain ⟨S, hS⟩ := rowR_pre (δ := stepsD w.ways e.1) (r := e.2) (ls := ls) (Q := Q)
            exact ⟨S ++ T, by rw [hT, hS, List.append_assoc]⟩
        exact pre hB
      rw [hT]
      simp
  refine ⟨rowAt_eq nd h00, fun q hq hq0 => ?_, fun p x q hp hs => ?_⟩
  · rcases bfsR_from hB (fun e he => .inl (by rw [List.mem_singleton.mp he])) _ (inR q hq) with h | ⟨⟨p, r⟩, k1, x, k2, k3⟩
    · exact absurd (congrArg Prod.fst h) hq0
    · simp only at k2 k3
      have hs := stepsD_sound w.ways k2
      have hp : p < w.size := by
        obtain ⟨v, hv, e⟩ := (st_end hs).1
        have := hlt v hv
        omega
      exact ⟨p, x, hp, hs, by rw [k3, rowAt_eq nd k1]⟩
  · obtain ⟨s, k1, k2⟩ := bfsR_near hB (List.pairwise_singleton _ _) (fun e he b hb => by
      rw [List.mem_singleton.mp hb]
      simp) (fun j hj => by omega) _ (inR p hp) x (hls _ _ _ hs) q ((F p x q).mpr hs)
    rw [rowAt_eq nd k1]
    exact k2
section
variable {W : List Way} {N : Nat} {f : Nat → Row}
theorem Tree.walk (t : Tree W N f) : ∀ (n q : Nat), (f q).length = n → q < N → Walk W 0 (f q) q := by
  intro n
  induction n with
  | zero =>
    intro q hl hq
    have e : f q = [] := List.eq_nil_of_length_eq_zero hl
    by_cases h0 : q = 0
    · subst h0; rw [e]; exact rfl
    · obtain ⟨p, x, _, _, h⟩ := t.from_ q hq h0
      rw [h] at e
      simp at e
  | succ n ih =>
    intro q hl hq
    by_cases h0 : q = 0
    · subst h0
      rw [t.base] at hl
      simp at hl
    · obtain ⟨p, x, hp, hs, h⟩ := t.from_ q hq h0
      rw [h, List.length_append] at hl
      rw [h]
      exact walk_snoc.mpr ⟨p, ih p (by simpa using hl) hp, hs⟩
theorem Tree.to (t : Tree W N f) {q : Nat} (hq : q < N) : Walk W 0 (f q) q := t.walk _ q rfl hq
theorem Tree.inj (t : Tree W N f) (D : Det W) {p q : Nat} (hp : p < N) (hq : q < N) (e : f p = f q) : p = q := by
  have h1 := t.to hp
  rw [e] at h1
  exact D.walk h1 (t.to hq)
/-- no way there is shorter -/
theorem Tree.short (t : Tree W N f) (hN : ∀ w ∈ W, w.1 < N ∧ w.2.2 < N) : ∀ (u : Row) {p q : Nat}, p < N → Walk W p u q → (f q).length ≤ (f p).length + u.length
  | [], p, q, _, h => by rw [show p = q from h]; exact Nat.le_refl _
  | x :: u, p, q, hp, ⟨m, h1, h2⟩ => by
    have hm : m < N := by
      obtain ⟨v, hv, e⟩ := (st_end h1).2
      have := hN v hv
      omega
    have := t.near p x m hp h1
    have := t.short hN u hm h2
    rw [List.length_cons]
    omega
/-! ### ways off the tree -/
def nonT (W : List Way) (f : Nat → Row) : List Way := W.filter fun v => decide (f v.2.2 ≠ f v.1 ++ [⟨v.2.1, false⟩] ∧ f v.1 ≠ f v.2.2 ++ [⟨v.2.1, true⟩])
def wayOf (p : Nat) (x : Lt) (q : Nat) : Way := if x.u = true then (q, x.d, p) else (p, x.d, q)
theorem st_wayOf {p q : Nat} {x : Lt} : St W p x q ↔ wayOf p x q ∈ W := by
  unfold St wayOf
  split <;> rfl
theorem wayOf_back (p : Nat) (x : Lt) (q : Nat) : wayOf q x.inv p = wayOf p x q := by
  obtain ⟨d, u⟩ := x
  cases u <;> rfl
theorem tree_way {p q : Nat} {x : Lt} (h : f q = f p ++ [x]) : wayOf p x q ∉ nonT W f := by
  unfold nonT wayOf
  intro hm
  have := of_decide_eq_true (List.mem_filter.mp hm).2
  obtain ⟨d, u⟩ := x
  cases u
  · exact this.1 h
  · exact this.2 h
theorem nonT_or {v : Way} (hv : v ∈ W) : v ∈ nonT W f ∨ f v.2.2 = f v.1 ++ [⟨v.2.1, false⟩] ∨ f v.1 = f v.2.2 ++ [⟨v.2.1, true⟩] := by
  by_cases h1 : f v.2.2 = f v.1 ++ [⟨v.2.1, false⟩]
  · exact .inr (.inl h1)
  · by_cases h2 : f v.1 = f v.2.2 ++ [⟨v.2.1, true⟩]
    · exact .inr (.inr h2)
    · exact .inl (List.mem_filter.mpr ⟨hv, decide_eq_true ⟨h1, h2⟩⟩)
theorem filter_both {α : Type} (p : α → Bool) : ∀ l : List α, l.length = (l.filter p).length + (l.filter fun a => !p a).length
  | [] => rfl
  | a :: l => by
    have ih := filter_both p l
    rw [List.filter_cons, List.filter_cons]
    cases p a <;> simp <;> omega
/-- as many as there are more ways than places, and one -/
theorem count_nonT (t : Tree W N f) (D : Det W) (hn : W.Nodup) (h0 : 0 < N) (hN : ∀ w ∈ W, w.1 < N ∧ w.2.2 < N) : W.length + 1 = N + (nonT W f).length := by
  have hb := filter_both (fun v : Way => decide (f v.2.2 ≠ f v.1 ++ [⟨v.2.1, false⟩] ∧ f v.1 ≠ f v.2.2 ++ [⟨v.2.1, true⟩])) W
  have hdef : (W.filter fun v : Way => decide (f v.2.2 ≠ f v.1 ++ [⟨v.2.1, false⟩] ∧ f v.1 ≠ f v.2.2 ++ [⟨v.2.1, true⟩])) = nonT W f := rfl
  rw [hdef] at hb
  generalize hT : (W.filter fun v : Way => !decide (f v.2.2 ≠ f v.1 ++ [⟨v.2.1, false⟩] ∧ f v.1 ≠ f v.2.2 ++ [⟨v.2.1, true⟩])) = T at hb
  have memT : ∀ v, v ∈ T ↔ v ∈ W ∧ (f v.2.2 = f v.1 ++ [⟨v.2.1, false⟩] ∨ f v.1 = f v.2.2 ++ [⟨v.2.1, true⟩]) := by
    intro v
    rw [← hT, List.mem_filter]
    constructor
    · rintro ⟨h1, h2⟩
      refine ⟨h1, ?_⟩
      rcases nonT_or (f := f) h1 with h | h
      · have h3 := (List.mem_filter.mp h).2
        rw [h3] at h2
        cases h2
      · exact h
    · rintro ⟨h1, h2⟩
      refine ⟨h1, ?_⟩
      have : ¬ (f v.2.2 ≠ f v.1 ++ [⟨v.2.1, false⟩] ∧ f v.1 ≠ f v.2.2 ++ [⟨v.2.1, true⟩]) := by
        rintro ⟨k1, k2⟩
        rcases h2 with h2 | h2
        · exact k1 h2
        · exact k2 h2
      rw [decide_eq_false this]
      rfl
  -- the place a tree way leads on to
  have lead : ∀ v ∈ T, ∃ p x q, v = wayOf p x q ∧ p < N ∧ q < N ∧ St W p x q ∧ f q = f p ++ [x] ∧ (if f v.2.2 = f v.1 ++ [⟨v.2.1, false⟩] then v.2.2 else v.1) = q := by
    intro v hv
    obtain ⟨h1, h2⟩ := (memT v).mp hv
    obtain ⟨l1, l2⟩ := hN v h1
    by_cases h3 : f v.2.2 = f v.1 ++ [⟨v.2.1, false⟩]
    · exact ⟨v.1, ⟨v.2.1, false⟩, v.2.2, rfl, l1, l2, st_wayOf.mpr h1, h3, by rw [if_pos h3]⟩
    · have h4 := h2.resolve_left h3
      exact ⟨v.2.2, ⟨v.2.1, true⟩, v.1, rfl, l2, l1, st_wayOf.mpr h1, h4, by rw [if_neg h3]⟩
  have nT : T.Nodup := by rw [← hT]; exact hn.filter _
  have n1 : (T.map fun v => if f v.2.2 = f v.1 ++ [⟨v.2.1, false⟩] then v.2.2 else v.1).Nodup := by
    refine nodup_map_on (fun a ha b hb e => ?_) nT
    obtain ⟨p, x, q, e1, hp, hq, hs, hf, e2⟩ := lead a ha
    obtain ⟨p', x', q', e1', hp', hq', hs', hf', e2'⟩ := lead b hb
    rw [e2, e2'] at e
    subst e
    rw [hf] at hf'
    obtain ⟨k1, k2⟩ := List.append_inj' hf' rfl
    have k3 := t.inj D hp hp' k1
    have k4 : x = x' := by simpa using k2
    rw [e1, e1', k3, k4]
  have n2 : ((List.range (N - 1)).map (· + 1)).Nodup := nodup_map_on (fun a _ b _ e => by simpa using e) List.nodup_range
  have s1 := n1.length_le_of_subset (l₂ := (List.range (N - 1)).map (· + 1)) fun q hq => by
    obtain ⟨v, hv, e⟩ := List.mem_map.mp hq
    obtain ⟨p, x, q', _, _, hq', _, hf, e2⟩ := lead v hv
    rw [e2] at e
    subst e
    have hq0 : q' ≠ 0 := by
      intro z
      rw [z, t.base] at hf
      have := congrArg List.length hf
      simp at this
    exact List.mem_map.mpr ⟨q' - 1, List.mem_range.mpr (by omega), by show q' - 1 + 1 = q'; omega⟩
  have s2 := n2.length_le_of_subset (l₂ := T.map fun v => if f v.2.2 = f v.1 ++ [⟨v.2.1, false⟩] then v.2.2 else v.1) fun q hq => by
    obtain ⟨k, hk, e⟩ := List.mem_map.mp hq
    have hk2 := List.mem_range.mp hk
    have hqN : q < N := by omega
    have hq0 : q ≠ 0 := by omega
    obtain ⟨p, x, hp, hs, hf⟩ := t.from_ q hqN hq0
    have hm : wayOf p x q ∈ T := (memT _).mpr ⟨st_wayOf.mp hs, by
      obtain ⟨d, u⟩ := x
      cases u
      · exact .inl hf
      · exact .inr hf⟩
    refine List.mem_map.mpr ⟨_, hm, ?_⟩
    obtain ⟨p', x', q', e1, hp', hq', hs', hf', e2⟩ := lead _ hm
    rw [e2]
    -- the other end would be shorter
    obtain ⟨d, u⟩ := x
    obtain ⟨d', u'⟩ := x'
    have len := congrArg List.length hf
    have len' := congrArg List.length hf'
    rw [List.length_append] at len len'
    simp only [List.length_cons, List.length_nil] at len len'
    cases u <;> cases u' <;> simp only [wayOf, Bool.false_eq_true, if_false, if_true, Prod.mk.injEq] at e1
    · exact e1.2.2.symm
    · rw [← e1.1, ← e1.2.2] at len'
      omega
    · rw [← e1.1, ← e1.2.2] at len'
      omega
    · exact e1.1.symm
  rw [List.length_map, List.length_map, List.length_range] at s1 s2
  omega
/-! ### crossings -/
def mark (T : List Way) (v : Way) (u : Bool) : Row := if v ∈ T then [⟨Fin.ofNat 26 (T.idxOf v), u⟩] else []
theorem mark_inv (T : List Way) (v : Way) (u : Bool) : mark T v (!u) = invR (mark T v u) := by
  unfold mark
  split
  · rfl
  · rfl
def crossD (δ : Nat → Lt → Option Nat) (T : List Way) : Nat → Row → Row
  | _, [] => []
  | p, x :: r => match δ p x with
    | some q => mark T (wayOf p x q) x.u ++ crossD δ T q r
    | none => []
variable {T : List Way}
theorem cross_cons (D : Det W) {p q : Nat} {x : Lt} {r : Row} (h : St W p x q) : crossD (stepsD W) T p (x :: r) = mark T (wayOf p x q) x.u ++ crossD (stepsD W) T q r := by
  have e := (fits_steps D p x q).mpr h
  rw [crossD, e]
theorem cross_app (D : Det W) : ∀ {a : Row} {p q : Nat} {b : Row}, Walk W p a q → crossD (stepsD W) T p (a ++ b) = crossD (stepsD W) T p a ++ crossD (stepsD W) T q b
  | [], p, q, b, h => by rw [show p = q from h]; rfl
  | x :: a, p, q, b, ⟨m, h1, h2⟩ => by
    rw [List.cons_append, cross_cons D h1, cross_cons D h1, cross_app D h2, List.append_assoc]
theorem cross_inv (D : Det W) : ∀ {a : Row} {p q : Nat}, Walk W p a q → crossD (stepsD W) T q (invR a) = invR (crossD (stepsD W) T p a)
  | [], p, q, h => rfl
  | x :: a, p, q, ⟨m, h1, h2⟩ => by
    have e : crossD (stepsD W) T m [x.inv] = invR (mark T (wayOf p x m) x.u) := by
      rw [cross_cons D h1.back, wayOf_back]
      show mark T (wayOf p x m) (!x.u) ++ [] = _
      rw [List.append_nil, mark_inv]
    rw [invR_cons, cross_app D h2.back, cross_inv D h2, cross_cons D h1, invR_append, e]
theorem cross_stack (D : Det W) : ∀ {r s : Row} {p q : Nat}, Walk W p (s.reverse ++ r) q → net (crossD (stepsD W) T p (run s r).reverse) = net (crossD (stepsD W) T p (s.reverse ++ r))
  | [], s, p, q, h => by rw [run_nil, List.append_nil]
  | x :: r, s, p, q, h => by
    rw [run_cons]
    by_cases c : ∃ s', s = x.inv :: s'
    · obtain ⟨s', rfl⟩ := c
      have e1 : push (x.inv :: s') x = s' := by simp [push]
      rw [e1]
      rw [List.reverse_cons, List.append_assoc] at h ⊢
      obtain ⟨m, h1, m2, h2, m3, h3, h4⟩ := walk_append.mp h
      have h2b : St W m2 x m := by
        have := h2.back
        rwa [Lt.inv_inv] at this
      have em : m3 = m := D _ _ _ _ h3 h2b
      subst em
      rw [cross_stack D (walk_append.mpr ⟨m3, h1, h4⟩), cross_app D h1, cross_app D h1]
      have e2 : crossD (stepsD W) T m3 ([x.inv] ++ x :: r) = mark T (wayOf m2 x m3) (!x.u) ++ (mark T (wayOf m2 x m3) x.u ++ crossD (stepsD W) T m3 r) := by
        show crossD (stepsD W) T m3 (x.inv :: x :: r) = _
        rw [cross_cons D h2, cross_cons D h3]
        rw [wayOf_back m2 x m3]
        rfl
      rw [e2]
      have e3 : mark T (wayOf m2 x m3) x.u = invR (mark T (wayOf m2 x m3) (!x.u)) := by
        rw [← mark_inv, Bool.not_not]
      rw [e3, net_word]
    · have e1 : push s x = x :: s := by
        cases s with
        | nil => rfl
        | cons y s' =>
          have : ¬ y = x.inv := fun z => c ⟨s', by rw [z]⟩
          simp [push, this]
      rw [e1]
      have e2 : (x :: s).reverse ++ r = s.reverse ++ x :: r := by simp
      rw [cross_stack D (by rw [e2]; exact h), e2]
theorem cross_net (D : Det W) {u : Row} {p q : Nat} (h : Walk W p u q) : net (crossD (stepsD W) T p (net u)) = net (crossD (stepsD W) T p u) := by
  have := cross_stack (T := T) D (r := u) (s := []) h
  exact this
theorem cross_tree (t : Tree W N f) (D : Det W) : ∀ (n q : Nat), (f q).length = n → q < N → crossD (stepsD W) (nonT W f) 0 (f q) = [] := by
  intro n
  induction n with
  | zero =>
    intro q hl hq
    rw [List.eq_nil_of_length_eq_zero hl]
    rfl
  | succ n ih =>
    intro q hl hq
    by_cases h0 : q = 0
    · subst h0; rw [t.base]; rfl
    · obtain ⟨p, x, hp, hs, h⟩ := t.from_ q hq h0
      have hl2 : (f p).length = n := by rw [h, List.length_append] at hl; simpa using hl
      rw [h, cross_app D (t.to hp), ih p hl2 hp, cross_cons D hs]
      have : mark (nonT W f) (wayOf p x q) x.u = [] := by
        unfold mark
        rw [if_neg (tree_way h)]
      rw [this]
      rfl
/-! ### products of the basis -/
def rawB (f : Nat → Row) (v : Way) : Row := f v.1 ++ [⟨v.2.1, false⟩] ++ invR (f v.2.2)
theorem basisOf_eq (f : Nat → Row) (W : List Way) : basisOf f W = (nonT W f).map fun v => net (rawB f v) := rfl
theorem raw_walk (t : Tree W N f) (hN : ∀ w ∈ W, w.1 < N ∧ w.2.2 < N) {v : Way} (hv : v ∈ W) : Walk W 0 (rawB f v) 0 := by
  obtain ⟨l1, l2⟩ := hN v hv
  exact walk_append.mpr ⟨v.2.2, walk_snoc.mpr ⟨v.1, t.to l1, st_wayOf.mpr hv⟩, (t.to l2).back⟩
theorem raw_cross (t : Tree W N f) (D : Det W) (hN : ∀ w ∈ W, w.1 < N ∧ w.2.2 < N) {v : Way} (hv : v ∈ nonT W f) : crossD (stepsD W) (nonT W f) 0 (rawB f v) = [⟨Fin.ofNat 26 ((nonT W f).idxOf v), false⟩] := by
  have hvW : v ∈ W := (List.mem_filter.mp hv).1
  obtain ⟨l1, l2⟩ := hN v hvW
  have hs : St W v.1 ⟨v.2.1, false⟩ v.2.2 := st_wayOf.mpr hvW
  have hw : Walk W 0 (f v.1 ++ [⟨v.2.1, false⟩]) v.2.2 := walk_snoc.mpr ⟨v.1, t.to l1, hs⟩
  unfold rawB
  rw [cross_app D hw, cross_app D (t.to l1), cross_tree t D _ _ rfl l1, cross_inv D (t.to l2), cross_tree t D _ _ rfl l2, cross_cons D hs]
  have : mark (nonT W f) (wayOf v.1 ⟨v.2.1, false⟩ v.2.2) false = [⟨Fin.ofNat 26 ((nonT W f).idxOf v), false⟩] := by
    unfold mark
    rw [show wayOf v.1 ⟨v.2.1, false⟩ v.2.2 = v from rfl, if_pos hv]
  rw [this]
  rfl
/-- what an index stands for -/
def bl (B : List Row) (y : Lt) : Row := if y.u = true then invR (B.getD y.d.val []) else B.getD y.d.val []
def prodB (B : List Row) (s : Row) : Row := (s.map (bl B)).flatten
theorem prodB_nil (B : List Row) : prodB B [] = [] := rfl
theorem prodB_cons (B : List Row) (y : Lt) (s : Row) : prodB B (y :: s) = bl B y ++ prodB B s := rfl
theorem prodB_snoc (B : List Row) (s : Row) (y : Lt) : prodB B (s ++ [y]) = prodB B s ++ bl B y := by
  unfold prodB
  rw [List.map_append, List.flatten_append]
  simp
variable (hW : W.Nodup)
include hW in
theorem bl_cross (t : Tree W N f) (D : Det W) (hN : ∀ w ∈ W, w.1 < N ∧ w.2.2 < N) {y : Lt} (hy : y.d.val < (basisOf f W).length) : Walk W 0 (bl (basisOf f W) y) 0 ∧ net (crossD (stepsD W) (nonT W f) 0 (bl (basisOf f W) y)) = [y] := by
  rw [basisOf_eq, List.length_map] at hy
  have hn : (nonT W f).Nodup := hW.filter _
  generalize hv : (nonT W f)[y.d.val] = v
  have hvm : v ∈ nonT W f := by rw [← hv]; exact List.getElem_mem hy
  have hidx : (nonT W f).idxOf v = y.d.val := by rw [← hv]; exact hn.idxOf_getElem _ hy
  have eB : (basisOf f W).getD y.d.val [] = net (rawB f v) := by
    rw [basisOf_eq, List.getD_eq_getElem?_getD, List.getElem?_map, List.getElem?_eq_getElem hy, hv]
    rfl
  have hw := raw_walk t hN (List.mem_filter.mp hvm).1
  have hwn : Walk W 0 (net (rawB f v)) 0 := Walk.net D hw
  have hc : net (crossD (stepsD W) (nonT W f) 0 (net (rawB f v))) = [⟨y.d, false⟩] := by
    rw [cross_net D hw, raw_cross t D hN hvm, hidx]
    have e : Fin.ofNat 26 y.d.val = y.d := Fin.ext (Nat.mod_eq_of_lt y.d.isLt)
    rw [e]
    exact net_red trivial
  unfold bl
  rw [eB]
  obtain ⟨d, u⟩ := y
  cases u with
  | false => exact ⟨hwn, hc⟩
  | true =>
    refine ⟨hwn.back, ?_⟩
    show net (crossD (stepsD W) (nonT W f) 0 (invR (net (rawB f v)))) = _
    rw [cross_inv D hwn, net_inv, hc]
    rfl
include hW in
theorem prod_cross (t : Tree W N f) (D : Det W) (hN : ∀ w ∈ W, w.1 < N ∧ w.2.2 < N) : ∀ {s : Row}, (∀ y ∈ s, y.d.val < (basisOf f W).length) → Walk W 0 (prodB (basisOf f W) s) 0 ∧ net (crossD (stepsD W) (nonT W f) 0 (prodB (basisOf f W) s)) = net s
  | [], _ => ⟨rfl, rfl⟩
  | y :: s, h => by
    obtain ⟨h1, h2⟩ := bl_cross hW t D hN (h y (by simp))
    obtain ⟨h3, h4⟩ := prod_cross t D hN (s := s) fun z hz => h z (List.mem_cons_of_mem _ hz)
    refine ⟨walk_append.mpr ⟨0, h1, h3⟩, ?_⟩
    rw [prodB_cons, cross_app D h1, ← net_net_left, h2, ← net_net_right, h4, net_net_right]
    rfl
include hW in
/-- THE BASIS IS FREE -/
theorem basis_free (t : Tree W N f) (D : Det W) (hN : ∀ w ∈ W, w.1 < N ∧ w.2.2 < N) {s s' : Row} (hs : ∀ y ∈ s, y.d.val < (basisOf f W).length) (hs' : ∀ y ∈ s', y.d.val < (basisOf f W).length) (r : Red s) (r' : Red s')
    (e : net (prodB (basisOf f W) s) = net (prodB (basisOf f W) s')) : s = s' := by
  obtain ⟨h1, h2⟩ := prod_cross hW t D hN hs
  obtain ⟨h3, h4⟩ := prod_cross hW t D hN hs'
  have k1 := cross_net (T := nonT W f) D h1
  have k2 := cross_net (T := nonT W f) D h3
  rw [e, k2, h2, h4, net_red r, net_red r'] at k1
  exact k1.symm
/-- the basis makes what the web keeps -/
theorem basis_lab (t : Tree W N f) : LabW (basisOf f W) f W := by
  intro p d q hm
  rcases nonT_or (f := f) hm with h | h | h
  · have hb : net (rawB f (p, d, q)) ∈ basisOf f W := by rw [basisOf_eq]; exact List.mem_map.mpr ⟨_, h, rfl⟩
    exact gen_net.mp (Gen.mem hb)
  · simp only at h
    rw [← h]
    exact Cos.refl _ _
  · simp only at h
    have h2 : Cos (basisOf f W) (f q ++ [⟨d, true⟩] ++ [⟨d, false⟩]) (f q) := by
      have e : f q ++ [⟨d, true⟩] ++ [⟨d, false⟩] = f q ++ [(⟨d, true⟩ : Lt), (⟨d, true⟩ : Lt).inv] := by simp [Lt.inv]
      rw [e]
      have h4 := Gen.put (R := basisOf f W) (a := f q) (w := [(⟨d, true⟩ : Lt)]) (b := invR (f q)) (Cos.refl _ (f q))
      unfold Cos
      simpa [invR_cons, invR_nil] using h4
    rw [← h] at h2
    exact h2
theorem basis_makes {ls : List Lt} {rows : List Row} {w : WebD} {f : Nat → Row} (h : IsWeb ls rows w) (t : Tree w.ways w.size f) (hk : ∀ r ∈ basisOf f w.ways, keptB w.ways r = true) : ∀ u, Gen rows u ↔ Gen (basisOf f w.ways) u := by
  intro u
  constructor
  · intro g
    have hw := (h.keeps u).mpr g
    have cw : ∀ {v : Row} {p q : Nat}, Walk w.ways p v q → Cos (basisOf f w.ways) (f p ++ v) (f q) := by
      intro v
      induction v with
      | nil => intro p q h; rw [show p = q from h, List.append_nil]; exact Cos.refl _ _
      | cons x v ih =>
        rintro p q ⟨m, a, b⟩
        have c3 := ((basis_lab t).st a).right v
        rw [List.append_assoc] at c3
        exact c3.trans (ih b)
    have := cw hw
    rw [t.base] at this
    have h2 : Gen (basisOf f w.ways) (net u) := by simpa [Cos, invR_nil] using this
    exact gen_net.mp h2
  · intro g
    exact g.sub fun r hr => (keptB_iff h r).mp (hk r hr)
end
end Rb
/-! Folding: how many ways there are more than places, how long the rings are. -/
namespace Rb
set_option linter.all false
/-- how many places: 0 and the ends of ways -/
def pl0 (N : Nat) (W : List Way) : Nat := ((List.range N).filter fun i => decide (i = 0 ∨ ∃ w ∈ W, w.1 = i ∨ w.2.2 = i)).length
/-- each way is one of a ring of at most m letters at 0 -/
def LoopB (W : List Way) (m : Nat) : Prop := ∀ p x q, St W p x q → ∃ u v, Walk W 0 u p ∧ Walk W q v 0 ∧ u.length + v.length + 1 ≤ m
structure Fx (m n N : Nat) (W : List Way) : Prop where
  loop : LoopB W m
  rank : W.length + 1 ≤ pl0 N W + n
theorem filter_one {α : Type} {p q : α → Bool} {m : α} : ∀ {l : List α}, l.Nodup → (∀ a ∈ l, p a = true → q a = true ∨ a = m) → (l.filter p).length ≤ (l.filter q).length + 1 := by
  intro l hn h
  by_cases hm : m ∈ l
  · have h1 : (l.filter p).Nodup := hn.filter _
    have h2 := h1.length_le_of_subset (l₂ := m :: l.filter q) fun a ha => by
      obtain ⟨k1, k2⟩ := List.mem_filter.mp ha
      rcases h a k1 k2 with h | h
      · exact List.mem_cons_of_mem _ (List.mem_filter.mpr ⟨k1, h⟩)
      · rw [h]; simp
    simpa using h2
  · have h1 : (l.filter p).Nodup := hn.filter _
    have h2 := h1.length_le_of_subset (l₂ := l.filter q) fun a ha => by
      obtain ⟨k1, k2⟩ := List.mem_filter.mp ha
      rcases h a k1 k2 with h | h
      · exact List.mem_filter.mpr ⟨k1, h⟩
      · exact absurd (h ▸ k1) hm
    omega
theorem LoopB.img {W W' : List Way} {m : Nat} (h : LoopB W m) {R : Nat → Nat} (h0 : R 0 = 0) (k : Img R W W') : LoopB W' m := by
  intro p x q hst
  obtain ⟨p0, q0, h1, h2, h3⟩ := (st_img k).mp hst
  obtain ⟨u, v, c2, c3, c4⟩ := h _ _ _ h1
  have d1 := walk_img k c2
  have d2 := walk_img k c3
  rw [h0, h2] at d1
  rw [h0, h3] at d2
  exact ⟨u, v, d1, d2, c4⟩
theorem Fx.same {m n N : Nat} {W W' : List Way} (F : Fx m n N W) (h : ∀ w, w ∈ W' ↔ w ∈ W) (hl : W'.length ≤ W.length) : Fx m n N W' := by
  refine ⟨F.loop.img (R := id) rfl fun w => ?_, ?_⟩
  · rw [h]
    constructor
    · intro k
      exact ⟨w, k, rfl⟩
    · rintro ⟨v, k, e⟩
      rw [← e]
      exact k
  · have e : pl0 N W' = pl0 N W := by
      unfold pl0
      congr 1
      refine List.filter_congr fun i _ => ?_
      refine decide_eq_decide.mpr ?_
      constructor
      · rintro (h1 | ⟨w, h1, h2⟩)
        · exact .inl h1
        · exact .inr ⟨w, (h w).mp h1, h2⟩
      · rintro (h1 | ⟨w, h1, h2⟩)
        · exact .inl h1
        · exact .inr ⟨w, (h w).mpr h1, h2⟩
    rw [e]
    have := F.rank
    omega
theorem Fx.merge {m n N : Nat} {W W' : List Way} (F : Fx m n N W) {a b : Nat} (h : Clash W a b) (k : Img (mergeR a b) W W') (hW : W.Nodup) (hW' : W'.Nodup) : Fx m n N W' := by
  refine ⟨F.loop.img (mergeR_zero a b) k, ?_⟩
  obtain ⟨hne, p, x, h1, h2⟩ := h
  have hm1 := st_wayOf.mp h1
  have hm2 := st_wayOf.mp h2
  have ea : mergeR a b a = mergeR a b b := by
    unfold mergeR
    split <;> split <;> omega
  have eimg : imgW (mergeR a b) (wayOf p x a) = imgW (mergeR a b) (wayOf p x b) := by
    unfold wayOf imgW
    split <;> simp [ea]
  have hne2 : wayOf p x b ≠ wayOf p x a := by
    unfold wayOf
    intro z
    split at z
    · simp only [Prod.mk.injEq, and_true] at z
      exact hne z.symm
    · simp only [Prod.mk.injEq, true_and] at z
      exact hne z.symm
  have l1 : W'.length ≤ (W.erase (wayOf p x a)).length := by
    have := hW'.length_le_of_subset (l₂ := (W.erase (wayOf p x a)).map (imgW (mergeR a b))) fun w hw => by
      obtain ⟨v, hv, e⟩ := (k w).mp hw
      by_cases hva : v = wayOf p x a
      · refine List.mem_map.mpr ⟨wayOf p x b, ?_, ?_⟩
        · exact (List.mem_erase_of_ne hne2).mpr hm2
        · rw [← e, hva, eimg]
      · exact List.mem_map.mpr ⟨v, (List.mem_erase_of_ne hva).mpr hv, e⟩
    rwa [List.length_map] at this
  have l2 := List.length_erase_of_mem hm1
  have lpos : 0 < W.length := List.length_pos_of_mem hm1
  have l3 : pl0 N W ≤ pl0 N W' + 1 := by
    unfold pl0
    refine filter_one (m := max a b) List.nodup_range fun i _ hi => ?_
    by_cases him : i = max a b
    · exact .inr him
    · refine .inl (decide_eq_true ?_)
      rcases of_decide_eq_true hi with h | ⟨w, hw, e⟩
      · exact .inl h
      · refine .inr ⟨imgW (mergeR a b) w, (k _).mpr ⟨w, hw, rfl⟩, ?_⟩
        have fix : mergeR a b i = i := by unfold mergeR; rw [if_neg him]
        rcases e with e | e
        · exact .inl (by show mergeR a b w.1 = i; rw [e, fix])
        · exact .inr (by show mergeR a b w.2.2 = i; rw [e, fix])
  have := F.rank
  omega
/-! ### as laid -/
theorem chain_cover : ∀ (r : Row) (first last fresh i : Nat), fresh ≤ i → i + 1 < fresh + r.length → ∃ p x, (p, x, i) ∈ chainA first last fresh r
  | [], _, _, _, _, h1, h2 => by simp at h2; omega
  | [x], _, _, _, _, h1, h2 => by simp at h2; omega
  | x :: y :: r, first, last, fresh, i, h1, h2 => by
    by_cases e : i = fresh
    · subst e
      exact ⟨first, x, by simp [chainA]⟩
    · obtain ⟨p, z, h⟩ := chain_cover (y :: r) fresh last (fresh + 1) i (by omega) (by simp only [List.length_cons] at h2 ⊢; omega)
      exact ⟨p, z, by simp only [chainA]; exact List.mem_cons_of_mem _ h⟩
theorem laid_cover : ∀ (rs : List Row) (fresh i : Nat), fresh ≤ i → i < laidLMany fresh rs → ∃ p x, (p, x, i) ∈ laidL fresh rs
  | [], fresh, i, h1, h2 => by simp [laidLMany] at h2; omega
  | r :: rs, fresh, i, h1, h2 => by
    simp only [laidLMany] at h2
    by_cases e : i < fresh + ((net r).length - 1)
    · obtain ⟨p, x, h⟩ := chain_cover (net r) 0 0 fresh i h1 (by omega)
      exact ⟨p, x, by simp only [laidL]; exact List.mem_append_left _ h⟩
    · obtain ⟨p, x, h⟩ := laid_cover rs _ i (by omega) h2
      exact ⟨p, x, by simp only [laidL]; exact List.mem_append_right _ h⟩
theorem laid_many : ∀ (rs : List Row) (n : Nat), n + (rs.map fun r => (net r).length).sum ≤ laidLMany n rs + rs.length
  | [], n => by simp [laidLMany]
  | r :: rs, n => by
    have := laid_many rs (n + ((net r).length - 1))
    simp only [laidLMany, List.map_cons, List.sum_cons, List.length_cons]
    omega
theorem chain_splitB {last : Nat} : ∀ {r : Row} {first fresh : Nat} {W : List Way} {p q : Nat} {x : Lt}, (p, x, q) ∈ chainA first last fresh r → (∀ p x q, (p, x, q) ∈ chainA first last fresh r → St W p x q) →
    ∃ u v, r.length = u.length + v.length + 1 ∧ Walk W first u p ∧ Walk W q v last := fun h k => by
  obtain ⟨u, v, e, h1, h2⟩ := chain_split h k
  exact ⟨u, v, by rw [e, List.length_append, List.length_cons]; omega, h1, h2⟩
theorem laid_splitB {W : List Way} {m : Nat} : ∀ {rs : List Row} {fresh : Nat}, (∀ r ∈ rs, r.length ≤ m) → (∀ p x q, (p, x, q) ∈ laidL fresh rs → St W p x q) → ∀ {p q : Nat} {x : Lt}, (p, x, q) ∈ laidL fresh rs →
    ∃ u v, Walk W 0 u p ∧ Walk W q v 0 ∧ u.length + v.length + 1 ≤ m
  | [], _, _, _, _, _, _, h => by simp [laidL] at h
  | s :: rs, fresh, hm, k, p, q, x, h => by
    simp only [laidL, List.mem_append] at h
    rcases h with h | h
    · obtain ⟨u, v, e, h1, h2⟩ := chain_splitB (W := W) h fun p x q hm => k p x q (by simp only [laidL, List.mem_append]; exact .inl hm)
      have := net_length_le s
      have := hm s (by simp)
      exact ⟨u, v, h1, h2, by omega⟩
    · exact laid_splitB (rs := rs) (fun r hr => hm r (List.mem_cons_of_mem _ hr)) (fun p x q hm => k p x q (by simp only [laidL, List.mem_append]; exact .inr hm)) h
theorem fx_laid {rs : List Row} {m : Nat} (hm : ∀ r ∈ rs, r.length ≤ m) : Fx m rs.length (laidLMany 1 rs) (fwd (laidL 1 rs)) := by
  refine ⟨fun p x q hst => ?_, ?_⟩
  · rcases st_fwd.mp hst with h | h
    · exact laid_splitB hm (fun p x q h => st_fwd.mpr (.inl h)) h
    · obtain ⟨u, v, c2, c3, c4⟩ := laid_splitB (W := fwd (laidL 1 rs)) hm (fun p x q h => st_fwd.mpr (.inl h)) h
      exact ⟨invR v, invR u, c3.back, c2.back, by rw [invR_length, invR_length]; omega⟩
  · have e : pl0 (laidLMany 1 rs) (fwd (laidL 1 rs)) = laidLMany 1 rs := by
      unfold pl0
      rw [List.filter_eq_self.mpr, List.length_range]
      intro i hi
      refine decide_eq_true ?_
      by_cases h0 : i = 0
      · exact .inl h0
      · obtain ⟨p, x, h⟩ := laid_cover rs 1 i (by omega) (List.mem_range.mp hi)
        exact .inr (st_end (st_fwd.mpr (.inl h))).2
    rw [e]
    unfold fwd
    rw [List.length_map, laidL_len]
    have := laid_many rs 1
    omega
/-! ### of the web -/
structure FxW (m n : Nat) (w : WebD) : Prop where
  loop : LoopB w.ways m
  rank : w.ways.length + 1 ≤ w.size + n
theorem fx_web {ls : List Lt} {m n N : Nat} {V : List Way} {R : List Nat} (F : Fx m n N V) (h : Right ls V 0) (B : Bfs (stepsD V) ls 0 [0] R) (hN : ∀ w ∈ V, w.1 < N ∧ w.2.2 < N) : FxW m n (webOf R V) := by
  have hF := fits_steps h.det
  obtain ⟨nd, hb, hz, hc⟩ := closed_of h hF B
  have inR : ∀ {p : Nat} {u : Row}, Walk V 0 u p → p ∈ R := fun {p u} hw => by
    have key : ∀ {u : Row} {p q : Nat}, p ∈ R → Walk V p u q → q ∈ R := by
      intro u
      induction u with
      | nil => intro p q hp h; rw [← (show p = q from h)]; exact hp
      | cons x u ih => rintro p q hp ⟨m, a, b⟩; exact ih (hc _ _ _ hp a) b
    exact key hb hw
  refine ⟨fun i x j hst => ?_, ?_⟩
  · obtain ⟨p, q, h1, h2, h3⟩ := (st_numb nd hc).mp (st_wsort.mp hst)
    obtain ⟨u, v, c1, c2, c3⟩ := F.loop _ _ _ h3
    have up : ∀ {w : Row} {p q : Nat}, p ∈ R → Walk V p w q → Walk (webOf R V).ways (R.idxOf p) w (R.idxOf q) := by
      intro w
      induction w with
      | nil => intro p q hp h; rw [show p = q from h]; exact rfl
      | cons x w ih =>
        rintro p q hp ⟨m, a, b⟩
        have hm := hc _ _ _ hp a
        exact ⟨R.idxOf m, st_wsort.mpr ((st_numb nd hc).mpr ⟨p, m, idx_get hp, idx_get hm, a⟩), ih hm b⟩
    have e0 : R.idxOf 0 = 0 := idx_of nd hz
    have ei : R.idxOf p = i := idx_of nd h1
    have ej : R.idxOf q = j := idx_of nd h2
    have d1 := up hb c1
    have d2 := up (List.mem_of_getElem? h2) c2
    rw [e0, ei] at d1
    rw [e0, ej] at d2
    exact ⟨u, v, d1, d2, c3⟩
  · show (wsort (numb R V)).length + 1 ≤ R.length + n
    rw [wsort_length]
    have l1 : (numb R V).length ≤ V.length := by
      unfold numb
      rw [List.length_map]
      exact List.length_filter_le _ _
    have l2 : pl0 N V ≤ R.length := by
      unfold pl0
      have hnd : ((List.range N).filter fun i => decide (i = 0 ∨ ∃ w ∈ V, w.1 = i ∨ w.2.2 = i)).Nodup := List.nodup_range.filter _
      refine hnd.length_le_of_subset fun i hi => ?_
      rcases of_decide_eq_true (List.mem_filter.mp hi).2 with e | ⟨w, hw, e⟩
      · rw [e]; exact hb
      · obtain ⟨p, d, q⟩ := w
        obtain ⟨u, v, _, c1, c2⟩ := h.loop p ⟨d, false⟩ q (by simpa [St] using hw)
        rcases e with e | e
        · simp only at e
          rw [← e]
          exact inR c1
        · simp only at e
          rw [← e]
          exact inR c2.back
    have := F.rank
    omega
/-- the earliest nets are short -/
theorem Tree.half {W : List Way} {N m : Nat} {f : Nat → Row} (t : Tree W N f) (hN : ∀ w ∈ W, w.1 < N ∧ w.2.2 < N) (h0 : 0 < N) (L : LoopB W m) {q : Nat} (hq : q < N) : 2 * (f q).length ≤ m := by
  by_cases hq0 : q = 0
  · subst hq0; rw [t.base]; simp
  · obtain ⟨p, x, hp, hs, _⟩ := t.from_ q hq hq0
    obtain ⟨u, v, c1, c2, c3⟩ := L _ _ _ hs
    have s1 := t.short hN (u ++ [x]) h0 (walk_snoc.mpr ⟨p, c1, hs⟩)
    have s2 := t.short hN (invR v) h0 c2.back
    rw [t.base, List.length_append] at s1
    rw [t.base, invR_length] at s2
    simp only [List.length_cons, List.length_nil] at s1 s2
    omega
end Rb
/-! Sets of tuples that hold numbers and texts. -/
namespace Rb
set_option linter.all false
set_option maxRecDepth 100000
set_option maxHeartbeats 4000000
open PySem PySem.Spec PyProof.Rows L2
abbrev Kx := List L2.Key
section
variable {P : Program} {w : World} {A : Around} {E : Value → Shared → Prop} {s : Shared}
/-- the object at b is a tuple of these numbers and texts -/
abbrev TupAt (P : Program) (w : World) (h : Heap) (k : Kx) (b : Addr) : Prop := IsTupleKey (mixKind P w) h k b
/-- its hash -/
abbrev kh (P : Program) (w : World) (k : Kx) : Int := tupleKeyHash (mixKind P w) k
theorem parts_plain {k : Kx} {us : List Value} (h : ItemsAre (mixKind P w) k us) : ∀ u ∈ us, (∃ i t, u = Value.int i t) ∨ ∃ x t, u = Value.str x t := by
  induction h with
  | nil => intro u hu; simp at hu
  | cons hk _ ih =>
    intro u hu
    rcases List.mem_cons.mp hu with rfl | hu
    · rcases keyIs_shape hk with ⟨i, t, _, e⟩ | ⟨x, t, _, e⟩
      · exact .inl ⟨i, t, e⟩
      · exact .inr ⟨x, t, e⟩
    · exact ih u hu
/-- no part of it is of a class of the text's own -/
theorem own_none {k : Kx} {b : Addr} {Q : Bool → Shared → Prop} (hb : TupAt P w s.heap k b) (q : Q false s) : wpAny (model P w) A (ofAClassStatement 8 (.ref b)) Q E s := by
  have ty := hb.typeIs
  obtain ⟨ob, its, n, e, _, ed, parts⟩ := hb
  have pl := parts_plain parts
  unfold ofAClassStatement
  refine wpAny_bind (wpAny_typeOf ty ?_)
  simp only [beq_self_eq_true, if_true, Bool.not_true, Bool.false_eq_true, if_false]
  try refine wpAny_bind (wpAny_pure ?_)
  try simp only [Bool.not_true, Bool.false_eq_true, if_false]
  show wpAny _ _ (seqItems? (.ref b) >>= _) _ _ s
  refine wpAny_bind (wpAny_seqItems e ed (wpAny_bind ?_))
  rw [← Array.forIn_toList]
  refine wpAny_forIn_list _ (fun left st s1 => st.1 = none ∧ s1 = s ∧ ∀ u ∈ left, u ∈ its.toList) _ ?_ ?_ _ _ ⟨rfl, rfl, fun _ h => h⟩
  · rintro u left st s1 ⟨h0, rfl, hin⟩
    have e0 : ofAClassStatement 7 u = pure false := by
      rcases pl u (hin u (by simp)) with ⟨i, t, rfl⟩ | ⟨x, t, rfl⟩ <;> rfl
    rw [e0]
    refine wpAny_bind (wpAny_pure ?_)
    simp only [Bool.false_eq_true, if_false]
    exact wpAny_pure ⟨rfl, rfl, fun v hv => hin v (by simp [hv])⟩
  · rintro ⟨st1, st2⟩ s1 ⟨h0, rfl, _⟩
    simp only at h0
    subst h0
    exact wpAny_pure q
/-- whether its hash is made of values alone: some answer, nothing changed -/
theorem by_value {k : Kx} {b : Addr} {Q : Bool → Shared → Prop} (hb : TupAt P w s.heap k b) (q : ∀ c, Q c s) : wpAny (model P w) A (hashByValue 8 (.ref b)) Q E s := by
  have ty := hb.typeIs
  obtain ⟨ob, its, n, e, _, ed, parts⟩ := hb
  have pl := parts_plain parts
  unfold hashByValue
  refine wpAny_bind (wpAny_specialOf ty F.slot_tuple_hash.lookup ?_)
  show wpAny _ _ (seqItems? (.ref b) >>= _) _ _ s
  refine wpAny_bind (wpAny_seqItems e ed (wpAny_bind ?_))
  rw [Option.getD_some, ← Array.forIn_toList]
  refine wpAny_forIn_list _ (fun left st s1 => st.1 = none ∧ s1 = s ∧ ∀ u ∈ left, u ∈ its.toList) _ ?_ ?_ _ _ ⟨rfl, rfl, fun _ h => h⟩
  · rintro u left st s1 ⟨h0, rfl, hin⟩
    rcases pl u (hin u (by simp)) with ⟨i, t, rfl⟩ | ⟨x, t, rfl⟩
    · rw [show hashByValue 7 (.int i t) = pure true from rfl]
      refine wpAny_bind (wpAny_pure ?_)
      simp only [Bool.not_true, Bool.false_eq_true, if_false]
      exact wpAny_pure ⟨rfl, rfl, fun v hv => hin v (by simp [hv])⟩
    · rw [show hashByValue 7 (.str x t) = pure false from rfl]
      refine wpAny_bind (wpAny_pure ?_)
      simp only [Bool.not_false, if_true]
      exact wpAny_pure (wpAny_pure (q false))
  · rintro ⟨st1, st2⟩ s1 ⟨h0, rfl, _⟩
    simp only at h0
    subst h0
    exact wpAny_pure (q true)
/-- asking among such tuples shows nothing of the table -/
theorem none_seen {k : Kx} {b : Addr} {Q : Bool → Shared → Prop} (hb : TupAt P w s.heap k b) {ys : List Value} (hy : ∀ y ∈ ys, ∃ k' c, y = Value.ref c ∧ TupAt P w s.heap k' c) (q : Q false s) : wpAny (model P w) A (searchCouldBeSeen (.ref b) ys) Q E s := by
  unfold searchCouldBeSeen
  refine wpAny_bind (wpAny_forIn_list _ (fun left st s1 => st.1 = none ∧ s1 = s ∧ ∀ y ∈ left, y ∈ ys) _ ?_ ?_ _ _ ⟨rfl, rfl, fun _ h => h⟩)
  · rintro y left st s1 ⟨h0, rfl, hin⟩
    obtain ⟨k', c, rfl, hc⟩ := hy y (hin y (by simp))
    have next : (none : Option Bool) = none ∧ s1 = s1 ∧ ∀ z ∈ left, z ∈ ys := ⟨rfl, rfl, fun z hz => hin z (by simp [hz])⟩
    dsimp only
    cases hv : (b == c || (carriedByValue (.ref b) && carriedByValue (.ref c)))
    · refine wp_if_neg (by simp) ?_
      refine wpAny_bind (wpAny_eqIsQuiet_tuple hb ?_)
      simp only [Bool.not_true, Bool.false_eq_true, if_false]
      refine wpAny_bind (wpAny_eqIsQuiet_tuple hc ?_)
      simp only [Bool.not_true, Bool.false_eq_true, if_false]
      refine wpAny_bind (own_none hb ?_)
      simp only [Bool.false_eq_true, if_false]
      refine wpAny_bind (own_none hc ?_)
      simp only [Bool.false_eq_true, if_false]
      exact wpAny_pure next
    · refine wp_if_pos (by simp) ?_
      exact wpAny_pure next
  · rintro ⟨st1, st2⟩ s1 ⟨h0, rfl, _⟩
    simp only at h0
    subst h0
    exact wpAny_pure q
/-- the entries of a table, by the tuples' addresses and keys -/
def ents (P : Program) (w : World) (L : List (Addr × Kx)) : List (Int × Value) := L.map fun e => (kh P w e.2, Value.ref e.1)
theorem ents_len (L : List (Addr × Kx)) : (ents P w L).length = L.length := List.length_map _
/-- the set at a has just the tuples of L -/
structure Bag (P : Program) (w : World) (h : Heap) (a : Addr) (L : List (Addr × Kx)) (es : Array (Int × Value)) (ep : Nat) (t : SetTable) : Prop where
  obj : ∃ o, h.get? a = some o ∧ o.ExactSet ∧ o.data = .set es ep t
  list : es.toList = ents P w L
  table : TabOk t (L.map fun e => kh P w e.2)
  uniq : (L.map (·.2)).Nodup
  keys : ∀ e ∈ L, TupAt P w h e.2 e.1
  shown : w.params.followText "set-order" = true ∨ t.led = true
  room : L.length * 5 < t.mask * 3
variable {a : Addr} {L : List (Addr × Kx)} {es : Array (Int × Value)} {ep : Nat} {t : SetTable}
theorem Bag.size (Z : Bag P w s.heap a L es ep t) : es.size = L.length := by
  rw [← Array.length_toList, Z.list, ents_len]
theorem Bag.place (Z : Bag P w s.heap a L es ep t) : t.place.size = L.length := by
  have := Z.table.sz
  rwa [List.length_map] at this
theorem Bag.fits (Z : Bag P w s.heap a L es ep t) : t.fits es.size = true := by
  have e1 := Z.place
  have e2 := Z.size
  have e3 := Z.room
  unfold SetTable.fits SetTable.fill
  rw [Z.table.dm]
  simp only [Bool.and_eq_true, beq_iff_eq, decide_eq_true_eq]
  show t.place.size = es.size ∧ t.place.size + 0 ≤ t.mask
  omega
theorem Bag.ent (Z : Bag P w s.heap a L es ep t) {i : Nat} {e : Addr × Kx} (h : L[i]? = some e) : es[i]? = some (kh P w e.2, Value.ref e.1) := by
  rw [← Array.getElem?_toList, Z.list]
  unfold ents
  rw [List.getElem?_map, h]
  rfl
theorem Bag.stays (Z : Bag P w s.heap a L es ep t) : ¬ t.gaveWay = true := by
  unfold SetTable.gaveWay
  rw [mask_odd Z.table.mok]
  decide
/-- where the search of a hash stands at its c-th step -/
abbrev spot (t : SetTable) (h : Int) (c : Nat) : SetTable.Probe := nth t.mask (runAt t.mask (SetTable.bits h % (t.mask + 1)) (SetTable.bits h)) c
theorem no_dummy (m : Nat) : ∀ (n : Nat) (p : SetTable.Probe), p.dummy = none → (nth m p n).dummy = none
  | 0, _, h => h
  | n + 1, p, h => no_dummy m n (adv m p) (by unfold adv; split <;> exact h)
theorem spot_add (t : SetTable) (h : Int) (c q : Nat) : nth t.mask (spot t h c) q = spot t h (c + q) := (nth_add t.mask c _ q).symm
/-- what the search of a key meets from its c-th step on -/
theorem meet (Z : Bag P w s.heap a L es ep t) {x : Addr} {k : Kx} (hx : TupAt P w s.heap k x) (hu : A.units < cLine) {K : Nat} (hK : K < 10 * SetTable.turns t.mask) (hfree : (spot t (kh P w k) K).j ∉ t.place.toList)
    (hfull : ∀ c, c < K → (spot t (kh P w k) c).j ∈ t.place.toList) {Q : SetFound → Shared → Prop} (yes : k ∈ L.map (·.2) → Q (.there none) s) (no : k ∉ L.map (·.2) → Q (.free (spot t (kh P w k) K).j false) s) :
    ∀ (f c : Nat) (st : Option SetTable.Probe), st.getD (t.probeStart (kh P w k)) = spot t (kh P w k) c → c ≤ K → K - c < f →
      (∀ (i : Nat) (e : Addr × Kx), L[i]? = some e → e.2 = k → ∃ d, c ≤ d ∧ d < K ∧ t.place.toList[i]? = some (spot t (kh P w k) d).j) →
      wpAny (model P w) A (setSearchFrom a (.ref x) (kh P w k) true f st) Q E s := by
  intro f
  induction f with
  | zero => intro c st _ _ h; omega
  | succ f again =>
    intro c st hst hc hf ahead
    obtain ⟨o, ho, hex, hd⟩ := Z.obj
    rw [setSearchFrom_succ]
    refine wpAny_bind (wpAny_setState_of ho hd Z.fits ?_)
    dsimp only
    refine wp_if_neg Z.stays ?_
    try refine wpAny_bind (wpAny_pure ?_)
    have hash_at : ∀ (i : Nat) (e : Addr × Kx), L[i]? = some e → (es[i]?.map (·.1)).getD 0 = kh P w e.2 := fun i e he => by
      rw [Z.ent he]
      rfl
    have hcK : c + (K - c) = K := Nat.add_sub_cancel' hc
    have met := go_spec t Z.table.ris Z.table.dm (fun i => (es[i]?.map (·.1)).getD 0) (kh P w k) (10 * SetTable.turns t.mask) (K - c) (spot t (kh P w k) c) (no_dummy _ _ _ rfl) (Nat.lt_of_le_of_lt (Nat.sub_le K c) hK)
      (fun q hq => by rw [spot_add]; exact hfull (c + q) (by omega)) (by rw [spot_add, hcK]; exact hfree)
    simp only [spot_add] at met
    rw [hcK] at met
    rcases met with ⟨q, i, hq, hi, hh, before, run⟩ | ⟨before, run⟩
    · have run2 : t.probe (fun i => (es[i]?.map (·.1)).getD 0) (kh P w k) (st.getD (t.probeStart (kh P w k))) = some (.candidate (spot t (kh P w k) (c + q)).j i (spot t (kh P w k) (c + (q + 1)))) := by
        rw [hst]
        exact run
      rw [run2]
      dsimp only
      have hil : i < L.length := by
        have h1 := (List.getElem?_eq_some_iff.mp hi).1
        rw [Array.length_toList, Z.place] at h1
        exact h1
      obtain ⟨e, he⟩ : ∃ e, L[i]? = some e := ⟨_, List.getElem?_eq_getElem hil⟩
      have heL : e ∈ L := List.mem_of_getElem? he
      have behind : wpAny (model P w) A (searchRest a (.ref x) (kh P w k) true f es t (spot t (kh P w k) (c + q)).j i (spot t (kh P w k) (c + (q + 1)))) Q E s := by
        unfold searchRest
        rw [Z.ent he]
        dsimp only
        refine wpAny_bind (wpAny_holding (wpAny_eqBool_tuple hu (Z.keys e heL) hx ?_))
        refine wpAny_bind (wpAny_setState_of ho hd Z.fits ?_)
        dsimp only
        by_cases hek : e.2 = k
        · refine wp_if_pos (by simp [hek]) ?_
          exact wpAny_pure (yes (List.mem_map.mpr ⟨e, heL, hek⟩))
        refine wp_if_neg (by simp [hek]) ?_
        try refine wpAny_bind (wpAny_pure ?_)
        rw [sameMem]
        dsimp only
        have live := slot_live Z.table.ris hi
        simp only [if_true, live, Z.ent he]
        refine wpAny_bind (wpAny_isSame_ref_self (wpAny_bind (wpAny_pure ?_)))
        simp only [if_true]
        refine wp_if_neg (by simp [hek]) ?_
        refine again (c + (q + 1)) _ rfl (by omega) (by omega) fun i' e' he' hk' => ?_
        obtain ⟨d, d1, d2, d3⟩ := ahead i' e' he' hk'
        refine ⟨d, ?_, d2, d3⟩
        refine Classical.byContradiction fun hdq => ?_
        by_cases same : d = c + q
        · subst same
          have live' := slot_live Z.table.ris d3
          rw [live] at live'
          injection live' with live'
          subst live'
          rw [he] at he'
          cases he'
          exact hek hk'
        · have h1 : c + (d - c) = d := Nat.add_sub_cancel' d1
          have hdq2 : d ≤ c + q := Nat.le_of_lt_succ (Nat.lt_of_not_le hdq)
          refine before (d - c) i' (by omega) (by rw [h1]; exact d3) ?_
          rw [hash_at i' e' he', hk']
      by_cases led : t.led = true
      · refine wp_if_neg (by simp [led]) ?_
        try refine wpAny_bind (wpAny_pure ?_)
        exact behind
      · refine wp_if_pos (by simp [led]) ?_
        refine wpAny_bind (none_seen hx (fun y hy => ?_) ?_)
        · obtain ⟨z, hz, rfl⟩ := List.mem_map.mp hy
          have hz2 : z ∈ es.toList := by
            have : z ∈ es ∧ z.1 = kh P w k := by simpa using hz
            simpa using this.1
          rw [Z.list] at hz2
          obtain ⟨e', he', rfl⟩ := List.mem_map.mp hz2
          exact ⟨e'.2, e'.1, rfl, Z.keys e' he'⟩
        · refine wp_if_neg (by decide) ?_
          try refine wpAny_bind (wpAny_pure ?_)
          exact behind
    · have run2 : t.probe (fun i => (es[i]?.map (·.1)).getD 0) (kh P w k) (st.getD (t.probeStart (kh P w k))) = some (.empty (spot t (kh P w k) K).j none) := by
        rw [hst]
        exact run
      rw [run2]
      dsimp only
      refine wpAny_pure (no fun hm => ?_)
      obtain ⟨e', hm', hk'⟩ := List.mem_map.mp hm
      obtain ⟨i', hi'⟩ := List.mem_iff_getElem?.mp hm'
      obtain ⟨d, d1, d2, d3⟩ := ahead i' e' hi' hk'
      have h1 : c + (d - c) = d := by omega
      refine before (d - c) i' (by omega) (by rw [h1]; exact d3) ?_
      rw [hash_at i' e' hi', hk']
/-- a search from its start: the key is met, or the first free place -/
theorem meet0 (Z : Bag P w s.heap a L es ep t) {x : Addr} {k : Kx} (hx : TupAt P w s.heap k x) (hu : A.units < cLine) {Q : SetFound → Shared → Prop} (yes : k ∈ L.map (·.2) → Q (.there none) s)
    (no : ∀ K, k ∉ L.map (·.2) → (spot t (kh P w k) K).j ∉ t.place.toList → (∀ c, c < K → (spot t (kh P w k) c).j ∈ t.place.toList) → Q (.free (spot t (kh P w k) K).j false) s) :
    wpAny (model P w) A (setSearch a (.ref x) (kh P w k) true) Q E s := by
  have hroom := Z.room
  obtain ⟨K, hK, hfree, hfull⟩ := Z.table.first (by rw [List.length_map]; omega) (kh P w k)
  have hsmall : K < 100000 := by
    have hm : t.mask ≤ 127 := by
      rcases Z.table.mok with e | e | e <;> omega
    have : SetTable.turns t.mask ≤ 142 := by
      unfold SetTable.turns
      omega
    omega
  unfold setSearch
  refine meet Z hx hu hK hfree hfull yes (fun hn => no K hn hfree hfull) 100000 0 none rfl (Nat.zero_le _) (by omega) fun i e he hk => ?_
  have h1 : (L.map fun e => kh P w e.2)[i]? = some (kh P w k) := by rw [List.getElem?_map, he, ← hk]; rfl
  have hil : i < t.place.toList.length := by
    rw [Array.length_toList, Z.place]
    exact (List.getElem?_eq_some_iff.mp he).1
  have h2 := List.getElem?_eq_getElem hil
  obtain ⟨d, d1, d2⟩ := Z.table.before hfree h1 h2
  exact ⟨d, Nat.zero_le _, d1, by rw [h2, ← d2]⟩
/-- a tuple is not the set -/
theorem TupAt.off {h h' : Heap} {k : Kx} {b : Addr} {o : Obj} {ep : Nat} (hb : TupAt P w h k b) (ho : h.get? a = some o) (hd : o.data = .set es ep t) (e : Heap.SameBut a h h') : TupAt P w h' k b := by
  obtain ⟨ob, its, n, e1, e2, e3, e4⟩ := hb
  refine ⟨ob, its, n, (e.2 b fun z => ?_).trans e1, e2, e3, e4⟩
  subst z
  rw [ho] at e1
  cases e1
  rw [hd] at e3
  cases e3
theorem TupAt.stay {h h' : Heap} {k : Kx} {b : Addr} (hb : TupAt P w h k b) (e : ∀ c o, h.get? c = some o → h'.get? c = some o) : TupAt P w h' k b := by
  obtain ⟨ob, its, n, e1, r⟩ := hb
  exact ⟨ob, its, n, e _ _ e1, r⟩
theorem firsts_all {α : Type} (l : List α) : ∀ n, n ≤ l.length → (List.range n).filterMap (fun i => l[i]?) = l.take n
  | 0, _ => by simp
  | n + 1, h => by
    rw [List.range_succ, List.filterMap_append, firsts_all l n (by omega), List.take_succ]
    have hn : n < l.length := h
    simp [List.getElem?_eq_getElem hn]
/-- entries in another order -/
theorem reorder {es : Array (Int × Value)} (he : es.toList = ents P w L) {order : Array Nat} (hp : order.toList.Perm (List.range L.length)) :
    ∃ L2, (order.filterMap (es[·]?)).toList = ents P w L2 ∧ L2.Perm L ∧ (L2.map fun e => kh P w e.2) = order.toList.map fun i => (es.map (·.1)).getD i 0 := by
  have at_ : ∀ i : Nat, es[i]? = (L[i]?).map fun e => (kh P w e.2, Value.ref e.1) := fun i => by
    rw [← Array.getElem?_toList, he]
    unfold ents
    rw [List.getElem?_map]
  refine ⟨order.toList.filterMap fun i => L[i]?, ?_, ?_, ?_⟩
  · rw [Array.toList_filterMap]
    unfold ents
    rw [List.map_filterMap]
    exact congrArg (fun f => List.filterMap f order.toList) (funext at_)
  · have h1 := hp.filterMap fun i => L[i]?
    rw [firsts_all L L.length (Nat.le_refl _), List.take_length] at h1
    exact h1
  · have low : ∀ i ∈ order.toList, i < L.length := fun i hi => List.mem_range.mp (hp.mem_iff.mp hi)
    generalize order.toList = os at low
    induction os with
    | nil => rfl
    | cons i os ih =>
      have hi := low i (by simp)
      have e1 := List.getElem?_eq_getElem hi
      rw [List.filterMap_cons_some e1, List.map_cons, List.map_cons, ih fun j hj => low j (by simp [hj])]
      congr 1
      have e2 : (es.map (·.1))[i]? = some (kh P w L[i].2) := by rw [Array.getElem?_map, at_ i, e1]; rfl
      simp [Array.getD_eq_getD_getElem?, e2]
/-- a greater table -/
theorem grow {o : Obj} (ho : s.heap.get? a = some o) (hex : o.ExactSet) (hd : o.data = .set es ep t) (he : es.toList = ents P w L) (hpl : t.place.size = es.size) (hdm : t.dummies = #[]) (hfl : es.size ≤ t.mask)
    (uniq : (L.map (·.2)).Nodup) (keys : ∀ e ∈ L, TupAt P w s.heap e.2 e.1) (shown : w.params.followText "set-order" = true ∨ t.led = true) {wanted M : Nat} (hw : SetTable.sizeAbove wanted - 1 = M) (hM : MaskOk M)
    (hw2 : SetTable.sizeAbove wanted ≤ 128) (room : L.length * 5 < M * 3) {Q : Unit → Shared → Prop}
    (hQ : ∀ h' L' es' ep' t', Heap.SameBut a s.heap h' → Bag P w h' a L' es' ep' t' → L'.Perm L → Q () { s with heap := h' }) : wpAny (model P w) A (setRelay a wanted) Q E s := by
  have hlen : es.size = L.length := by rw [← Array.length_toList, he, ents_len]
  have fit : t.fits es.size = true := by
    unfold SetTable.fits SetTable.fill
    rw [hdm]
    simp only [Bool.and_eq_true, beq_iff_eq, decide_eq_true_eq]
    show t.place.size = es.size ∧ t.place.size + 0 ≤ t.mask
    omega
  obtain ⟨t', order, laid, perm, tab, mask, led, _, _⟩ := relaid_ok t (hs := es.map (·.1)) (wanted := wanted) hw hM (by rw [Array.size_map, hlen]; omega)
  rw [Array.size_map, hlen] at perm
  obtain ⟨L2, l1, l2, l3⟩ := reorder he perm
  rw [← l3] at tab
  have hlen2 : (order.filterMap (es[·]?)).size = es.size := by rw [← Array.length_toList, l1, ents_len, l2.length_eq, hlen]
  have hsl : es.size ≤ sizeLine := Nat.le_of_lt (Nat.lt_of_le_of_lt (show es.size ≤ 1000 by rcases hM with e | e | e <;> omega) (by decide))
  rw [setRelay_eq]
  refine wpAny_bind (wpAny_setState_of ho hd fit ?_)
  dsimp only
  refine wp_if_neg (by rw [sizeLine_eq]; omega) ?_
  try refine wpAny_bind (wpAny_pure ?_)
  rw [laid]
  dsimp only
  refine wpAny_bind ?_
  refine wp_if_neg (by rw [hlen2]; simp) ?_
  try refine wpAny_bind (wpAny_pure ?_)
  refine wpAny_pure ?_
  dsimp only
  refine wpAny_storeSet_of ho hd ?_ (by rw [hlen2]; exact hsl)
  have only : Heap.SameBut a s.heap (s.heap.update a (Obj.putSet (order.filterMap (es[·]?)) t')) := Heap.SameBut.update ..
  refine hQ _ L2 (order.filterMap (es[·]?)) (ep + 1) t' only ?_ l2
  exact { obj := ⟨_, store_at ho hd, ⟨hex.1, hex.2.1, hex.2.2⟩, rfl⟩, list := l1, table := tab, uniq := (l2.map (·.2)).nodup_iff.mpr uniq, keys := fun e hm => TupAt.off (keys e (l2.mem_iff.mp hm)) ho hd only, shown := by rw [led]; exact shown, room := by rw [l2.length_eq, mask]; exact room }
theorem put_ents (L : List (Addr × Kx)) (p : Nat) (x : Addr) (k : Kx) : ents P w (L.take p ++ (x, k) :: L.drop p) = (ents P w L).take p ++ (kh P w k, Value.ref x) :: (ents P w L).drop p := by
  unfold ents
  simp only [List.map_append, List.map_cons, List.map_take, List.map_drop]
/-- a tuple is put into the set -/
theorem put_in (Z : Bag P w s.heap a L es ep t) {x : Addr} {k : Kx} (hx : TupAt P w s.heap k x) (hu : A.units < cLine) (few : L.length + 1 ≤ 76) {Q : Bool → Shared → Prop}
    (hQ : ∀ b h' L' es' ep' t', Heap.SameBut a s.heap h' → Bag P w h' a L' es' ep' t' → (k ∈ L.map (·.2) → L' = L) → (k ∉ L.map (·.2) → L'.Perm ((x, k) :: L)) → Q b { s with heap := h' }) :
    wpAny (model P w) A (setAddHashed a (.ref x) (kh P w k)) Q E s := by
  obtain ⟨o, ho, hex, hd⟩ := Z.obj
  have hsize := Z.size
  have hroom := Z.room
  unfold setAddHashed
  refine wpAny_holding ?_
  rw [show (100000 : Nat) = 99999 + 1 from rfl, setAddHashedIn_succ]
  refine wpAny_bind (wpAny_setState_of ho hd Z.fits ?_)
  dsimp only
  refine wp_if_neg (by simp [byScan, Value.scannable]) ?_
  try refine wpAny_bind (wpAny_pure ?_)
  refine wpAny_bind (meet0 Z hx hu (fun hm => ?_) fun K hm hfree hfull => ?_)
  · dsimp only
    exact wpAny_pure (hQ false s.heap L es ep t (Heap.SameBut.refl a s.heap) Z (fun _ => rfl) fun z => absurd hm z)
  dsimp only
  refine wpAny_bind (wpAny_setState_of ho hd Z.fits ?_)
  dsimp only
  obtain ⟨q1, q2, q3, q4, q5, _, _, _, q9⟩ := Z.table.put hfree hfull
  have e2 : (SetTable.insertAt es (SetTable.below t.place (spot t (kh P w k) K).j) (kh P w k, Value.ref x)).toList = ents P w (L.take (SetTable.below t.place (spot t (kh P w k) K).j) ++ (x, k) :: L.drop (SetTable.below t.place (spot t (kh P w k) K).j)) := by
    rw [SetTable.toList_insertAt, put_ents, Z.list]
  have e3 : (List.take (SetTable.below t.place (way t.mask (kh P w k) K)) (L.map fun e => kh P w e.2) ++ kh P w k :: List.drop (SetTable.below t.place (way t.mask (kh P w k) K)) (L.map fun e => kh P w e.2)) =
      (L.take (SetTable.below t.place (spot t (kh P w k) K).j) ++ (x, k) :: L.drop (SetTable.below t.place (spot t (kh P w k) K).j)).map fun e => kh P w e.2 := by
    simp only [List.map_append, List.map_cons, List.map_take, List.map_drop]
  rw [e3] at q3
  rw [List.length_map] at q9
  have hbelow : (t.put (spot t (kh P w k) K).j).2 = SetTable.below t.place (spot t (kh P w k) K).j := q1
  rw [hbelow]
  generalize (t.put (spot t (kh P w k) K).j).1 = t1 at q3 q4 q5 q9 ⊢
  have pm := L2.put_perm L (SetTable.below t.place (spot t (kh P w k) K).j) (x, k)
  generalize SetTable.insertAt es (SetTable.below t.place (spot t (kh P w k) K).j) (kh P w k, Value.ref x) = es1 at e2 ⊢
  generalize L.take (SetTable.below t.place (spot t (kh P w k) K).j) ++ (x, k) :: L.drop (SetTable.below t.place (spot t (kh P w k) K).j) = L1 at e2 q3 pm
  have len1 : L1.length = L.length + 1 := pm.length_eq
  have size1 : es1.size = L.length + 1 := by rw [← Array.length_toList, e2, ents_len, len1]
  have fin : ∀ t2 : SetTable, TabOk t2 (L1.map fun e => kh P w e.2) → t2.mask = t.mask → t2.led = t.led → t2.fill = L.length + 1 →
      wpAny (model P w) A (storeSet a es1 t2 >>= fun _ => if (!false && t2.tooFull) = true then (setRelay a (SetTable.grown (es.size + 1)) >>= fun _ => pure true) else pure true) Q E s := by
    intro t2 tab mask led fill
    refine wpAny_bind (wpAny_storeSet_of ho hd ?_ (by rw [size1, sizeLine_eq]; omega))
    have only : Heap.SameBut a s.heap (s.heap.update a (Obj.putSet es1 t2)) := Heap.SameBut.update ..
    have ho1 := store_at (es' := es1) (t' := t2) ho hd
    generalize s.heap.update a (Obj.putSet es1 t2) = h1 at only ho1 ⊢
    have keys1 : ∀ e ∈ L1, TupAt P w h1 e.2 e.1 := fun e he => by
      rcases List.mem_cons.mp (pm.mem_iff.mp he) with rfl | he
      · exact TupAt.off hx ho hd only
      · exact TupAt.off (Z.keys e he) ho hd only
    have uniq1 : (L1.map (·.2)).Nodup := by
      refine (pm.map (·.2)).nodup_iff.mpr ?_
      rw [List.map_cons]
      exact List.nodup_cons.mpr ⟨hm, Z.uniq⟩
    have shown1 : w.params.followText "set-order" = true ∨ t2.led = true := by rw [led]; exact Z.shown
    have full : t2.tooFull = decide ((L.length + 1) * 5 ≥ t.mask * 3) := by
      unfold SetTable.tooFull
      rw [fill, mask]
    rw [full]
    by_cases hf : (L.length + 1) * 5 ≥ t.mask * 3
    · refine wp_if_pos (by simp [hf]) ?_
      have place1 : t2.place.size = es1.size := by
        have := tab.sz
        rw [List.length_map, len1] at this
        rw [this, size1]
      have go : ∀ M, SetTable.sizeAbove (SetTable.grown (L.length + 1)) - 1 = M → MaskOk M → SetTable.sizeAbove (SetTable.grown (L.length + 1)) ≤ 128 → (L.length + 1) * 5 < M * 3 → L.length + 1 ≤ t.mask →
          wpAny (model P w) A (setRelay a (SetTable.grown (es.size + 1)) >>= fun _ => pure true) Q E { s with heap := h1 } := fun M m1 m2 m3 m4 m5 => by
        rw [hsize]
        refine wpAny_bind (grow (s := { s with heap := h1 }) ho1 ⟨hex.1, hex.2.1, hex.2.2⟩ rfl e2 place1 tab.dm (by rw [size1, mask]; exact m5) uniq1 keys1 shown1 m1 m2 m3 (by rw [len1]; exact m4) fun h2 L2 es2 ep2 t2 only2 Z2 pm2 => ?_)
        exact wpAny_pure (hQ true h2 L2 es2 ep2 t2 (only.trans only2) Z2 (fun z => absurd z hm) fun _ => pm2.trans pm)
      rcases Z.table.mok with e | e | e
      · have hl : L.length = 4 := by omega
        exact go 31 (by rw [hl, size_20]) (.inr (.inl rfl)) (by rw [hl, size_20]; decide) (by omega) (by omega)
      · have hl : L.length = 18 := by omega
        exact go 127 (by rw [hl, size_76]) (.inr (.inr rfl)) (by rw [hl, size_76]; decide) (by omega) (by omega)
      · omega
    · refine wp_if_neg (by simp [hf]) ?_
      refine wpAny_pure (hQ true h1 L1 es1 (ep + 1) t2 only ?_ (fun z => absurd z hm) fun _ => pm)
      exact { obj := ⟨_, ho1, ⟨hex.1, hex.2.1, hex.2.2⟩, rfl⟩, list := e2, table := tab, uniq := uniq1, keys := keys1, shown := shown1, room := by rw [len1, mask]; omega }
  have both : ∀ c : Bool, wpAny (model P w) A (storeSet a es1 (if c = true then t1 else { t1 with plain := false }) >>= fun _ => if (!false && (if c = true then t1 else { t1 with plain := false }).tooFull) = true then (setRelay a (SetTable.grown (es.size + 1)) >>= fun _ => pure true) else pure true) Q E s := by
    intro c
    cases c
    · exact fin { t1 with plain := false } ⟨q3.ris, q3.dm, q3.sz, q3.mok, q3.bd, q3.reach⟩ q4 q5 q9
    · exact fin t1 q3 q4 q5 q9
  split
  · exact wpAny_bind (by_value hx fun c => both c)
  · exact wpAny_bind (wpAny_pure (both true))
/-- what the set has of the first i items -/
structure Has (ks : List (Addr × Kx)) (i : Nat) (L : List (Addr × Kx)) : Prop where
  sub : ∀ e ∈ L, e ∈ ks.take i
  all : ∀ e ∈ ks.take i, e.2 ∈ L.map (·.2)
  few : L.length ≤ i
theorem Has.old {ks L : List (Addr × Kx)} {i : Nat} {e : Addr × Kx} (g : Has ks i L) (h : ks[i]? = some e) (hm : e.2 ∈ L.map (·.2)) : Has ks (i + 1) L := by
  have e1 : ks.take (i + 1) = ks.take i ++ [e] := by rw [List.take_succ, h]; rfl
  refine ⟨fun z hz => ?_, fun z hz => ?_, Nat.le_succ_of_le g.few⟩
  · rw [e1]
    exact List.mem_append_left _ (g.sub z hz)
  · rw [e1] at hz
    rcases List.mem_append.mp hz with hz | hz
    · exact g.all z hz
    · rw [List.mem_singleton.mp hz]
      exact hm
theorem Has.new {ks L L' : List (Addr × Kx)} {i : Nat} {e : Addr × Kx} (g : Has ks i L) (h : ks[i]? = some e) (pm : L'.Perm (e :: L)) : Has ks (i + 1) L' := by
  have e1 : ks.take (i + 1) = ks.take i ++ [e] := by rw [List.take_succ, h]; rfl
  refine ⟨fun z hz => ?_, fun z hz => ?_, ?_⟩
  · rw [e1]
    rcases List.mem_cons.mp (pm.mem_iff.mp hz) with rfl | hz
    · simp
    · exact List.mem_append_left _ (g.sub z hz)
  · rw [(pm.map (·.2)).mem_iff, List.map_cons]
    rw [e1] at hz
    rcases List.mem_append.mp hz with hz | hz
    · exact List.mem_cons_of_mem _ (g.all z hz)
    · rw [List.mem_singleton.mp hz]
      simp
  · rw [pm.length_eq, List.length_cons]
    exact Nat.succ_le_succ g.few
theorem Bag.held {h h' : Heap} (Z : Bag P w h a L es ep t) (ha : ∀ o, h.get? a = some o → h'.get? a = some o) (hk : ∀ e ∈ L, TupAt P w h' e.2 e.1) : Bag P w h' a L es ep t := by
  obtain ⟨o, ho, r⟩ := Z.obj
  exact { Z with obj := ⟨o, ha o ho, r⟩, keys := hk }
theorem bag_new {h : Heap} (ho : h.get? a = some { cls := .type "set", dict := none, data := .set #[] 0 (.fresh 0 0 (!w.params.followText "set-order")) }) : Bag P w h a [] #[] 0 (.fresh 0 0 (!w.params.followText "set-order")) where
  obj := ⟨_, ho, ⟨rfl, rfl, rfl⟩, rfl⟩
  list := rfl
  table := (setTR_fresh (P := P) (w := w) ho).tab
  uniq := List.nodup_nil
  keys := fun e he => by simp at he
  shown := (setTR_fresh (P := P) (w := w) ho).led
  room := by
    show 0 * 5 < 7 * 3
    decide
/-- the loop that fills a set from an iterator -/
theorem fill_loop {I : Addr} {fp wr : List Addr} {G : Array GenState → Array GenState → Prop} {n : Nat} {Pv : Nat → Value → Prop} {St : Nat → Shared → Prop} {R : Result → Shared → Prop}
    (W : WalksS P w A.in1 I fp wr G n Pv St) (S : Addr) (out : S ∉ fp) (ks : List (Addr × Kx)) (hn : n = ks.length) (few : ks.length ≤ 76) (val : ∀ i v, Pv i v → ∃ e, ks[i]? = some e ∧ v = .ref e.1)
    (old : Heap) (kold : ∀ e ∈ ks, TupAt P w old e.2 e.1) (sold : old.get? S = none) (wold : ∀ b ∈ wr, old.get? b = none) (hu : A.in1.units < cLine) :
    ∀ (left i : Nat) (s : Shared), n - i = left → i ≤ n → St i s → (∀ b o, old.get? b = some o → s.heap.get? b = some o) → (∃ L es ep t, Bag P w s.heap S L es ep t ∧ Has ks i L) →
      (∀ s' L es ep t, Moved (S :: wr) G s s' → Bag P w s'.heap S L es ep t → Has ks n L → (∀ b o, old.get? b = some o → s'.heap.get? b = some o) → R (.ok (.ret .none)) s') →
      codeAny (model P w) A (.builtin "set.update.loop" ⟨[.ref S, .ref I], []⟩) R s := by
  have more : ∀ b ∈ wr, b ∈ S :: wr := fun b hb => List.mem_cons_of_mem _ hb
  have swr : S ∉ wr := fun hb => out (W.sub _ hb)
  have onward : ∀ {s1 s2 : Shared}, Moved wr G s1 s2 → (∀ b o, old.get? b = some o → s1.heap.get? b = some o) → ∀ b o, old.get? b = some o → s2.heap.get? b = some o := fun mv kp b o e => mv.heap b o (fun hb => by rw [wold b hb] at e; cases e) (kp b o e)
  have bag_on : ∀ {s1 s2 : Shared} {i : Nat} {L : List (Addr × Kx)} {es : Array (Int × Value)} {ep : Nat} {t : SetTable}, Moved wr G s1 s2 → (∀ b o, old.get? b = some o → s2.heap.get? b = some o) → Bag P w s1.heap S L es ep t → Has ks i L → Bag P w s2.heap S L es ep t :=
    fun mv kp Z g => Z.held (fun o e => mv.heap S o swr e) fun e he => (kold e (List.mem_of_mem_take (g.sub e he))).stay kp
  intro left
  induction left with
  | zero =>
    rintro i s hl hi hst kp ⟨L, es, ep, t, Z, g⟩ hR
    obtain rfl : i = n := by omega
    refine codeAny_builtin F.entry_set_update_loop ?_
    rw [Around.under_plainId F.plain_set_update_loop _]
    show wpAny _ A.in1 (pyNext (.ref I) >>= _) _ _ s
    refine wpAny_bind (W.done s _ _ hst fun s' mv => ?_)
    have kp' := onward mv kp
    show wpAny _ A.in1 (ret Value.none) _ _ s'
    exact wpAny_pure (hR s' L es ep t (mv.mono more) (bag_on mv kp' Z g) g kp')
  | succ left ih =>
    rintro i s hl hi hst kp ⟨L, es, ep, t, Z, g⟩ hR
    have hlt : i < n := by omega
    refine codeAny_builtin F.entry_set_update_loop ?_
    rw [Around.under_plainId F.plain_set_update_loop _]
    show wpAny _ A.in1 (pyNext (.ref I) >>= _) _ _ s
    refine wpAny_bind (W.item i s _ _ hlt hst fun v s' hv hst' mv => ?_)
    obtain ⟨e, he, rfl⟩ := val i v hv
    have kp' := onward mv kp
    have Z' := bag_on mv kp' Z g
    have hx : TupAt P w s'.heap e.2 e.1 := (kold e (List.mem_of_getElem? he)).stay kp'
    show wpAny _ A.in1 (holding [Value.ref e.1] (setAdd S (.ref e.1)) >>= _) _ _ s'
    refine wpAny_bind (wpAny_holding ?_)
    unfold setAdd
    refine wpAny_holding (wpAny_bind (wpAny_pyHash_tuple hu hx ?_))
    refine put_in (s := { s' with toks := s'.toks + (e.2.length + 1) }) Z' hx hu (by have := g.few; omega) fun b h' L' es' ep' t' only Z2 c1 c2 => ?_
    have g' : Has ks (i + 1) L' := by
      rcases Classical.em (e.2 ∈ L.map (·.2)) with c | c
      · rw [c1 c]
        exact g.old he c
      · exact g.new he (c2 c)
    have kp2 : ∀ b o, old.get? b = some o → h'.get? b = some o := fun b o eo => (only.2 b fun z => by rw [z, sold] at eo; cases eo).trans (kp' b o eo)
    refine wpAny_pure ⟨plainId_quiet F.plain_set_update_loop _, ih (i + 1) _ (by omega) hlt (W.frame _ s' _ _ hst' (Nat.le_add_right _ _) fun b hb o eo => ?_) kp2 ⟨L', es', ep', t', Z2, g'⟩ fun s2 L2 es2 ep2 t2 mv2 Z3 g3 kp3 => ?_⟩
    · exact (only.2 b fun z => out (z ▸ hb)).trans eo
    · refine hR s2 L2 es2 ep2 t2 (Moved.trans W.gtrans ((mv.mono more).then_heap (Nat.le_add_right _ _) fun b o hb eo => ?_) mv2) Z3 g3 kp3
      exact (only.2 b fun z => hb (by rw [z]; simp)).trans eo
abbrev bareSet (w : World) : Obj := { cls := .type "set", dict := none, data := .set #[] 0 (.fresh 0 0 (!w.params.followText "set-order")) }
set_option maxHeartbeats 6400000 in
/-- set(list), the list's items such tuples -/
theorem set_of_list {l : Addr} {items : Array Value} (ks : List (Addr × Kx)) {Q : Value → Shared → Prop} (hh : A.handled = none) (hl : s.heap.IsList l items) (hit : items.toList = ks.map fun e => Value.ref e.1)
    (keys : ∀ e ∈ ks, TupAt P w s.heap e.2 e.1) (few : ks.length ≤ 76) (hu : A.units + 3 < cLine)
    (h : ∀ (h' : Heap) (tk : Nat) L es ep t, Bag P w h' s.heap.objs.size L es ep t → Has ks ks.length L → (∀ b o, s.heap.get? b = some o → h'.get? b = some o) → Q (.ref s.heap.objs.size) { s with heap := h', toks := tk }) :
    wpAny (model P w) A (call (.type "set") [.ref l]) Q E s := by
  have num : items.size = ks.length := by rw [← Array.length_toList, hit, List.length_map]
  obtain ⟨c, tl, hmro⟩ := F.called_set.mro
  have hmade := F.called_set.made
  have hsub := F.called_set.sub
  refine wpAny_call (codeAny_of_tree ?_)
  show wpAny _ _ (callAny (.type "set") _) _ _ _
  refine wpAny_pure ⟨Code.quiet_builtin _ (by decide +kernel), codeAny_builtin F.entry_type_call ?_⟩
  rw [Around.under_plain (weight_type_call_type "set" [.ref l] []) rfl]
  have h1 := F.called_set.notType
  have h2 := F.called_set.canCreate
  have hct := F.typeCall_set_1 (.ref l)
  repeat (any_goals (first | assumption | wp_step))
  refine codeAny_mono (code_set_led1 (.ref l) (E := E) (Q₁ := fun v s₁ => v = .ref s.heap.objs.size ∧ s₁ = { s with heap := s.heap.push (bareSet w) }) ⟨rfl, rfl⟩) fun r s₁ hr => ?_
  cases r with
  | error e => exact hr
  | ok fl =>
    cases fl with
    | next => exact hr.elim
    | brk => exact hr.elim
    | cont => exact hr.elim
    | ret made =>
      obtain ⟨rfl, rfl⟩ := hr
      have there : (s.heap.push (bareSet w)).get? s.heap.objs.size = some (bareSet w) := Heap.get?_push_size _ rfl
      have ty : Shared.TypeIs { s with heap := s.heap.push (bareSet w) } (.ref s.heap.objs.size) "set" := ⟨_, there, rfl⟩
      have hli := F.called_set.init.lookup
      have hbi := F.called_set.init.bind (.ref s.heap.objs.size)
      repeat (any_goals (first | assumption | wp_step))
      refine codeAny_mono (codeAny_call_builtin (R := wants (fun v s₂ => v = .none ∧ ∃ h' tk L es ep t, s₂ = { s with heap := h', toks := tk } ∧ Bag P w h' s.heap.objs.size L es ep t ∧ Has ks ks.length L ∧
          (∀ b o, s.heap.get? b = some o → h'.get? b = some o)) E) F.called_set.init.plain F.entry_set_init (check_set_init_1 ty ?_)) fun r₂ s₂ hr₂ => ?_
      · obtain ⟨ol, hol, hcl, nl, hdl⟩ := hl
        obtain ⟨ocls, odict, odata, oslots⟩ := ol
        simp only at hcl hdl
        subst hcl
        subst hdl
        have hol' : (s.heap.push (bareSet w)).get? l = some { cls := .type "list", dict := odict, data := .seq items nl, slots := oslots } := Heap.get?_push_of_some _ hol
        have hsls := F.sub_list_set
        have hslf := F.sub_list_frozenset
        have hne : (Value.type "list" == Value.type "dict") = false := by decide
        have isl : (s.heap.push (bareSet w)).IsList l items := ⟨_, hol', rfl, nl, rfl⟩
        unfold Builtin.«set.__init__» noKeywords Builtin.Frozenset.updateFrom
        generalize hPI : pyIter = PI
        wp_walk
        subst hPI
        refine wpAny_pyIter_list isl ?_
        refine wpAny_bind (wpAny_runValue ?_)
        have low : ∀ b, s.heap.objs.size ≤ b → s.heap.get? b = none := fun b hb => by
          cases q : s.heap.get? b with
          | none => rfl
          | some o => exact absurd (Nat.lt_of_lt_of_le (Heap.lt_size q) hb) (Nat.lt_irrefl _)
        have hlt : l < s.heap.objs.size := Heap.lt_size hol
        have hsz : (s.heap.push (bareSet w)).objs.size = s.heap.objs.size + 1 := Heap.size_push ..
        have handled3 : A.in1.in1.in1.handled = none := by simp [hh]
        have vals : ∀ (i : Nat) (v : Value), items[i]? = some v → ∃ e, ks[i]? = some e ∧ v = .ref e.1 := fun i v hv => by
          rw [← Array.getElem?_toList, hit, List.getElem?_map] at hv
          cases q : ks[i]? with
          | none => rw [q] at hv; cases hv
          | some e => rw [q] at hv; exact ⟨e, rfl, (Option.some.inj hv).symm⟩
        refine fill_loop ((Walks.list handled3 _ l (by rw [hsz]; exact Nat.ne_of_lt (Nat.lt_succ_of_lt hlt)) items).toS) s.heap.objs.size (by rw [hsz]; simp only [List.mem_cons, List.not_mem_nil, or_false, not_or]; exact ⟨Nat.ne_of_lt (Nat.lt_succ_self _), Nat.ne_of_gt hlt⟩) ks num few vals s.heap keys (low _ (Nat.le_refl _)) (fun b hb => low b (by rw [List.mem_singleton.mp hb, hsz]; omega)) hu
          (items.size - 0) 0 _ (by omega) (Nat.zero_le _) ⟨⟨_, Heap.get?_push_size _ rfl, rfl, rfl⟩, isl.push _⟩ (fun b o e => Heap.get?_push_of_some _ (Heap.get?_push_of_some _ e))
          ⟨[], #[], 0, _, bag_new (Heap.get?_push_of_some _ there), ⟨fun e he => by simp at he, fun e he => by simp at he, Nat.le_refl _⟩⟩ ?_
        rintro ⟨h', g2, d', tk', os'⟩ L es ep t mv Z g kp
        have e1 : g2 = s.gens := mv.gens
        have e2 : d' = s.drawn := mv.drawn
        have e3 : os' = s.os := mv.os
        subst e1
        subst e2
        subst e3
        show wpAny _ _ _ _ _ _
        refine wpAny_pure ?_
        show wpAny _ _ (ret Value.none) _ _ _
        rw [num] at g
        exact wpAny_pure ⟨rfl, h', tk', L, es, ep, t, rfl, Z, g, kp⟩
      · cases r₂ with
        | error e => exact hr₂
        | ok fl₂ =>
          cases fl₂ with
          | next => exact hr₂.elim
          | brk => exact hr₂.elim
          | cont => exact hr₂.elim
          | ret v =>
            obtain ⟨rfl, h', tk, L, es, ep, t, rfl, Z, g, kp⟩ := hr₂
            repeat (any_goals (first | assumption | wp_step))
            exact h _ _ _ _ _ _ Z g kp
end
end Rb
/-! sorted(set(ways)), the set itself untracked. -/
namespace Rb
set_option linter.all false
set_option maxRecDepth 100000
set_option maxHeartbeats 4000000
open PySem PySem.Spec PyProof.Rows L2
/-- a way as a set's key -/
def kW (x : Way) : Kx := [.inl (x.1 : Int), .inr (lS ⟨x.2.1, false⟩), .inl (x.2.2 : Int)]
theorem kW_inj {x y : Way} (h : kW x = kW y) : x = y := by
  obtain ⟨p, d, q⟩ := x
  obtain ⟨p', d', q'⟩ := y
  simp only [kW, List.cons.injEq, Sum.inl.injEq, Sum.inr.injEq, and_true] at h
  obtain ⟨h1, h2, h3⟩ := h
  have e1 : p = p' := by omega
  have e3 : q = q' := by omega
  have e2 := lS_inj h2
  simp only [Lt.mk.injEq, and_true] at e2
  rw [e1, e2, e3]
/-- us are the ways of ws, each once, ascending -/
structure WSet (us ws : List Way) : Prop where
  nd : us.Nodup
  up : us.Pairwise (fun a b => wle a b = true)
  mem : ∀ x, x ∈ us ↔ x ∈ ws
section
variable {P : Program} {w : World} {A : Around} {E : Value → Shared → Prop} {s : Shared}
theorem reads_tup {h : Heap} {x : Way} {b : Addr} (hb : TupAt P w h (kW x) b) : Reads h (.ref b) (encW x) [] := by
  obtain ⟨ob, its, n, e1, e2, e3, e4⟩ := hb
  obtain ⟨p, d, q⟩ := x
  refine .tuple e1 e2 e3 ?_
  generalize its.toList = vs at e4
  unfold kW at e4
  cases e4 with
  | cons h1 e4 =>
    cases e4 with
    | cons h2 e4 =>
      cases e4 with
      | cons h3 e4 =>
        cases e4
        rcases keyIs_shape (k := .inl (p : Int)) h1 with ⟨i, t, z, rfl⟩ | ⟨_, _, z, _⟩
        · cases z
          rcases keyIs_shape (k := .inr (lS ⟨d, false⟩)) h2 with ⟨_, _, z, _⟩ | ⟨_, t2, z, rfl⟩
          · cases z
          · cases z
            rcases keyIs_shape (k := .inl (q : Int)) h3 with ⟨_, t3, z, rfl⟩ | ⟨_, _, z, _⟩
            · cases z
              exact .cons (as := []) (bs := []) (.int _ _) (.cons (as := []) (bs := []) (.str _ _) (.cons (as := []) (bs := []) (.int _ _) .nil))
            · cases z
        · cases z
theorem each_refs (h : Heap) (a : Addr) : ∀ {bs : List (Addr × Way)}, (∀ b ∈ bs, Reads h (.ref b.1) (encW b.2) []) →
    PySem.W.EachIs (fun v (b : Addr × Way) => ∃ as, Reads h v (encW b.2) as ∧ a ∉ as) (bs.map fun b => Value.ref b.1) bs
  | [], _ => .nil
  | b :: bs, k => .cons ⟨[], k b (by simp), by simp⟩ (each_refs h a fun c hc => k c (List.mem_cons_of_mem _ hc))
theorem each_self : ∀ (bs : List (Addr × Way)), PySem.W.EachIs (fun v (b : Addr × Way) => v = Value.ref b.1) (bs.map fun b => Value.ref b.1) bs
  | [] => .nil
  | b :: bs => .cons rfl (each_self bs)
theorem refs_each : ∀ {vs : List Value} {bs : List (Addr × Way)}, PySem.W.EachIs (fun v (b : Addr × Way) => v = Value.ref b.1) vs bs → vs = bs.map fun b => Value.ref b.1
  | _, _, .nil => rfl
  | _, _, .cons h t => by rw [h, refs_each t]; rfl
theorem all_alike2 (bs : List (Addr × Way)) : PySem.W.AllAlike (bs.map fun b => encW b.2) := by
  intro d hd d' hd'
  obtain ⟨a, _, rfl⟩ := List.mem_map.mp hd
  obtain ⟨b, _, rfl⟩ := List.mem_map.mp hd'
  rfl
set_option maxHeartbeats 6400000 in
/-- sorted(set), the members ways -/
theorem sorted_bag {a : Addr} {Lw : List (Addr × Way)} {L : List (Addr × Kx)} {es : Array (Int × Value)} {ep : Nat} {t : SetTable} {Q : Value → Shared → Prop} (eL : L = Lw.map fun e => (e.1, kW e.2)) (Z : Bag P w s.heap a L es ep t)
    (hh : A.handled = none) (hu : A.units + 10 < cLine) (few : L.length ≤ 76)
    (hQ : ∀ s' p (out : Array Value) (c : Nat) (L' : List (Addr × Way)), (∀ b o, s.heap.get? b = some o → s'.heap.get? b = some o) → s'.gens = s.gens → s'.os = s.os → s.heap.objs.size ≤ p →
      s'.heap.get? p = some (seqObj "list" out c) → out.toList = L'.map (fun q => Value.ref q.1) → L'.Perm Lw → L'.Pairwise (fun q r => wle q.2 r.2 = true) → Q (.ref p) s') :
    wpAny (model P w) A (call (.builtin "sorted") [.ref a]) Q E s := by
  obtain ⟨o, ho, hex, hd⟩ := Z.obj
  have hsz := Z.size
  refine Calls.call_function_entry kind_sorted plain_sorted entry_sorted (args_sorted1 _) ?_
  unfold Builtin.«sorted»
  refine wpAny_bind (m := checkCount "sorted" 1 1 _) (wpAny_pure ?_)
  refine wpAny_bind (collect_set (A := A.in1) hh ⟨o, ho, hex.1, hd⟩ Z.fits (by unfold scanBound; omega) Z.table.ris Z.shown fun s1 vs k1 hz g1 o1 pm => ?_)
  have hes : es.toList.map (·.2) = Lw.map fun q => Value.ref q.1 := by
    rw [Z.list, eL]
    unfold ents
    rw [List.map_map, List.map_map] <;> rfl
  rw [hes] at pm
  have keys : ∀ q ∈ Lw, TupAt P w s.heap (kW q.2) q.1 := fun q hq => Z.keys (q.1, kW q.2) (by rw [eL]; exact List.mem_map.mpr ⟨q, hq, rfl⟩)
  have ord : ∀ vs : List Value, (∀ v ∈ vs, ∃ q ∈ Lw, v = Value.ref q.1) → ∃ L1 : List (Addr × Way), vs = L1.map (fun q => Value.ref q.1) ∧ ∀ q ∈ L1, q ∈ Lw := by
    intro vs
    induction vs with
    | nil => intro _; exact ⟨[], rfl, fun q hq => (by cases hq)⟩
    | cons v vs ih =>
      intro hv
      obtain ⟨q, hq, e⟩ := hv v List.mem_cons_self
      obtain ⟨L1, e1, hs⟩ := ih fun u hu => hv u (List.mem_cons_of_mem _ hu)
      refine ⟨q :: L1, by rw [List.map_cons, e, e1], fun r hr => ?_⟩
      rcases List.mem_cons.mp hr with z | z
      · rw [z]; exact hq
      · exact hs r z
  have one : ∀ q ∈ Lw, ∀ r ∈ Lw, q.1 = r.1 → q = r := fun q hq r hr e => by
    have a1 := keys q hq
    have a2 := keys r hr
    rw [e] at a1
    have e2 : q.2 = r.2 := kW_inj (a1.inj a2)
    exact Prod.ext e e2
  have nL : Lw.Nodup := by
    have h1 := Z.uniq
    rw [eL, List.map_map] at h1
    exact L2.nodup_of_map h1
  have perm_of : ∀ L1 : List (Addr × Way), (∀ q ∈ L1, q ∈ Lw) → (L1.map (fun q => Value.ref q.1)).Perm (Lw.map fun q => Value.ref q.1) → L1.Perm Lw := by
    intro L1 hs pm1
    have nref : (Lw.map fun q => Value.ref q.1).Nodup := by
      refine List.pairwise_map.mpr (List.Pairwise.imp_of_mem (fun {q r} hq hr hne e => ?_) nL)
      injection e with e
      exact hne (one q hq r hr e)
    have n1 : L1.Nodup := L2.nodup_of_map (pm1.nodup_iff.mpr nref)
    refine (List.perm_ext_iff_of_nodup n1 nL).mpr fun q => ⟨hs q, fun hq => ?_⟩
    have hm : Value.ref q.1 ∈ L1.map (fun q => Value.ref q.1) := pm1.mem_iff.mpr (List.mem_map.mpr ⟨q, hq, rfl⟩)
    obtain ⟨r, hr, e⟩ := List.mem_map.mp hm
    injection e with e
    rw [← one r (hs r hr) q hq e]
    exact hr
  have lenL : L.length = Lw.length := by rw [eL, List.length_map]
  have hvl : vs.length ≤ 76 := by rw [pm.length_eq, List.length_map, ← lenL]; exact few
  refine wpAny_bind (wpAny_newList ?_ (by rw [sizeLine_eq]; omega))
  obtain ⟨L1, eV, hL1⟩ := ord vs fun v hv => by
    obtain ⟨q, hq, e⟩ := List.mem_map.mp (pm.mem_iff.mp hv)
    exact ⟨q, hq, e.symm⟩
  subst eV
  have p1 := perm_of L1 hL1 pm
  have hoL : (s1.heap.push (seqObj "list" (L1.map fun q => Value.ref q.1).toArray 0)).get? s1.heap.objs.size = some (seqObj "list" (L1.map fun q => Value.ref q.1).toArray 0) := Heap.get?_push_size _ rfl
  have rd : ∀ b ∈ L1, Reads (s1.heap.push (seqObj "list" (L1.map fun q => Value.ref q.1).toArray 0)) (.ref b.1) (encW b.2) [] := fun b hb =>
    reads_tup (P := P) (w := w) ((keys b (hL1 b hb)).stay fun c u e => Heap.get?_push_of_some _ (k1 c u e))
  have hle : PySem.W.dataLe false (fun b : Addr × Way => encW b.2) = fun a b => wle a.2 b.2 := by
    funext a b
    exact wle_data a.2 b.2
  refine wpAny_bind (wpAny_holding (PySem.W.list_sort_data (s := { s1 with heap := s1.heap.push (seqObj "list" (L1.map fun q => Value.ref q.1).toArray 0) }) (enc := fun b : Addr × Way => encW b.2) (R := fun v (b : Addr × Way) => v = Value.ref b.1) hoL (each_self L1) (each_refs _ _ rd) (all_alike2 L1)
    (.inl fun d hd' => ?_) (by rw [sizeLine_eq]; rw [List.length_map] at hvl; omega) (fun b hb => ?_) fun out hl hout => ?_))
  · obtain ⟨b, _, rfl⟩ := List.mem_map.mp hd'
    exact ⟨_, _, rfl⟩
  · show A.units + 1 + 1 + (encW b.2).depth < cLine
    have : (encW b.2).depth ≤ 2 := by
      simp [encW, PyData.depth, PyData.depthAll]
    omega
  rw [hle] at hout
  obtain ⟨c, hc⟩ := sortedHeap_at (vs := L1.map fun q => Value.ref q.1) (out := out.toArray) hoL
  have pm2 := List.mergeSort_perm L1 (fun a b => wle a.2 b.2)
  refine wpAny_pure ⟨_, rfl, hQ _ s1.heap.objs.size out.toArray c (L1.mergeSort (fun a b => wle a.2 b.2)) (fun b u e => ?_) g1 o1 hz hc (refs_each hout) (pm2.trans p1) (List.pairwise_mergeSort (le := fun (a b : Addr × Way) => wle a.2 b.2) (fun a b c => wle_trans a.2 b.2 c.2) (fun a b => wle_total a.2 b.2) L1)⟩
  have q := k1 b u e
  have hlt := Heap.lt_size q
  show (sortedHeap (s1.heap.push (seqObj "list" (L1.map fun q => Value.ref q.1).toArray 0)) s1.heap.objs.size (L1.map fun q => Value.ref q.1) out.toArray).get? b = some u
  rw [sortedHeap_old (Nat.ne_of_lt hlt) (by rw [size_push']; exact Nat.lt_succ_of_lt hlt)]
  exact Heap.get?_push_of_some _ q
end
section
variable {X : Cx} {pins : List (Addr × Obj)} {σ : L2.St} {H : Hp} {s : Shared}
theorem inv_tup (I : Inv X pins σ H s) {b : Addr} {x : Way} (h : SqT X.K H b [.int x.1, .str (lS ⟨x.2.1, false⟩), .int x.2.2]) : TupAt X.prog X.w s.heap (kW x) b := by
  obtain ⟨its, r, p, _⟩ := I.tuple h
  obtain ⟨o, h1, h2, n, h3⟩ := p
  have r' : Vals ((kW x).map kV) its := r
  exact ⟨o, its.toArray, n, h1, h2, h3, by simpa using items_are r'⟩
theorem refs_data {K : PySem.W.Frag} {H : Hp} : ∀ {vs : List V} {ws : List Way}, DpAll K H vs (ws.map encW) → ∃ bs : List (Addr × Way), bs.map (·.2) = ws ∧ vs = bs.map (fun b => V.ref b.1) ∧ ∀ b ∈ bs, SqT K H b.1 [.int b.2.1, .str (lS ⟨b.2.2.1, false⟩), .int b.2.2.2]
  | _, [], h => by
    cases h
    exact ⟨[], rfl, rfl, by simp⟩
  | _, w :: ws, h => by
    cases h with
    | @cons v vs _ _ h1 h2 =>
      obtain ⟨bs, e1, e2, e3⟩ := refs_data h2
      obtain ⟨t, rfl, ht⟩ := dp_tup3 h1
      refine ⟨(t, w) :: bs, by simp [e1], by simp [e2], ?_⟩
      intro b hb
      rcases List.mem_cons.mp hb with e | hb
      · subst e; exact ht
      · exact e3 b hb
theorem data_refs {K : PySem.W.Frag} {H : Hp} : ∀ {bs : List (Addr × Way)}, (∀ b ∈ bs, SqT K H b.1 [.int b.2.1, .str (lS ⟨b.2.2.1, false⟩), .int b.2.2.2]) → DpAll K H (bs.map fun b => V.ref b.1) ((bs.map (·.2)).map encW)
  | [], _ => .nil
  | b :: bs, h => .cons (dp_of3 (h b (by simp))) (data_refs fun c hc => h c (List.mem_cons_of_mem _ hc))
theorem raw_refs : ∀ {bs : List (Addr × Way)} {us : List Value}, Vals (bs.map fun b => V.ref b.1) us → us = bs.map fun b => Value.ref b.1
  | [], _, .nil => rfl
  | b :: bs, _, .cons r t => by rw [raw_refs t, show _ = Value.ref b.1 from r]; rfl
theorem refs_raw : ∀ (bs : List (Addr × Way)), Vals (bs.map fun b => V.ref b.1) (bs.map fun b => Value.ref b.1)
  | [] => .nil
  | b :: bs => .cons rfl (refs_raw bs)
def tSortSet (K : PySem.W.Frag) (ta : TE) : TE := fun σ H Q => ta σ H fun x H1 => ∃ (l : Addr) (vs : List V) (ws : List Way), x = .ref l ∧ SqL K H1 l vs ∧ DpAll K H1 vs (ws.map encW) ∧ ws.length ≤ 76 ∧
  ∀ (p : Addr) (vs' : List V) (us : List Way), H1 p = none → WSet us ws → DpAll K H1 vs' (us.map encW) → Q (.ref p) (upd H1 p (.lst vs'))
theorem pe_sortSet {K : PySem.W.Frag} (hK : X.K = K) {a : Expr} {ta : TE} {p p2 q pos : Pos} (hc : X.calm = true) (hu : X.A.units + 64 < cLine) (hg : Gl X "sorted") (hm : X.mg "sorted" = none) (hg2 : Gl X "set") (hm2 : X.mg "set" = none) (ha : PE X a ta)
    (na : starEach [a] X.env = (false, eval a X.env) :: starEach [] X.env := by rfl) : PE X (.Call (.Name "sorted" p) [.Call (.Name "set" p2) [a] [] q] [] pos) (tSortSet K ta) := by
  subst hK
  refine ⟨fun pins s σ H Q I h => ?_⟩
  refine Call_ (ld_blt I hg hm boot_sorted ?_)
  refine PyProof.Rows.callWith_builtin1 (PyProof.Rows.args_cons ?_ rfl) rfl rfl
  refine Call_ (ld_blt I hg2 hm2 PyProof.Rows.boot_set ?_)
  refine PyProof.Rows.callWith_type1 (PyProof.Rows.args_cons (thn (ha.run pins s σ H _ I h) fun v s1 ⟨x, H1, I1, r1, q1⟩ => PyProof.Rows.args_nil ?_) na) na rfl
  obtain ⟨l, vs, ws, rfl, hl, hd, few, q1⟩ := q1
  cases r1
  obtain ⟨its, rv, pl, hz⟩ := I1.list hl
  obtain ⟨bs, e1, e2, e3⟩ := refs_data hd
  subst e2
  have hits : its.toArray.toList = (bs.map fun b => (b.1, kW b.2)).map fun e => Value.ref e.1 := by
    rw [List.map_map]
    exact raw_refs rv
  have lb : bs.length = ws.length := by rw [← e1, List.length_map]
  refine set_of_list (P := X.prog) (w := X.w) (bs.map fun b => (b.1, kW b.2)) (I1.ok.hd hc) pl.isList hits (fun e he => ?_) (by rw [List.length_map, lb]; exact few) (by omega) fun h' tk L es ep t Z g k => ?_
  · obtain ⟨b, hb, rfl⟩ := List.mem_map.mp he
    exact inv_tup I1 (e3 b hb)
  refine PyProof.Rows.args_nil ?_
  have I2 : Inv X pins σ H1 { s1 with heap := h', toks := tk } := I1.kept k
  have split : ∀ L : List (Addr × Kx), (∀ e ∈ L, e ∈ bs.map fun b => (b.1, kW b.2)) → ∃ Lw : List (Addr × Way), L = Lw.map (fun e => (e.1, kW e.2)) ∧ ∀ b ∈ Lw, b ∈ bs := by
    intro L
    induction L with
    | nil => intro _; exact ⟨[], rfl, fun b hb => by cases hb⟩
    | cons e L ih =>
      intro hs
      obtain ⟨b, hb, eb⟩ := List.mem_map.mp (hs e List.mem_cons_self)
      obtain ⟨Lw, e5, h5⟩ := ih fun z hz => hs z (List.mem_cons_of_mem _ hz)
      refine ⟨b :: Lw, by rw [List.map_cons, eb, e5], fun c hc => ?_⟩
      rcases List.mem_cons.mp hc with z | z
      · rw [z]; exact hb
      · exact h5 c z
  obtain ⟨Lw, eL, hLw⟩ := split L fun e he => List.mem_of_mem_take (g.sub e he)
  have fewL : L.length ≤ 76 := by
    have := g.few
    rw [List.length_map] at this
    omega
  refine sorted_bag (s := { s1 with heap := h', toks := tk }) eL Z (I2.ok.hd hc) (by omega) fewL fun s' p out c L' k2 g2 o2 hp hg3 hout pm pw => ?_
  have hn : H1 p = none := I2.hok.fresh hp
  have hL' : ∀ b ∈ L', b ∈ bs := fun b hb => hLw b (pm.mem_iff.mp hb)
  have hlen : (L'.map fun q => V.ref q.1).length ≤ sizeLine := by
    rw [List.length_map, pm.length_eq, sizeLine_eq]
    have : L.length = Lw.length := by rw [eL, List.length_map]
    omega
  have hv : Vals (L'.map fun q => V.ref q.1) out.toList := by rw [hout]; exact refs_raw L'
  have J : Inv X pins σ (upd H1 p (.lst (L'.map fun q => V.ref q.1))) { s1 with heap := s'.heap, gens := s'.gens, drawn := s'.drawn, toks := s'.toks } :=
    Inv.call (s := { s1 with heap := h', toks := tk }) I2 (ch := []) (Un.laid (h := h') k2 hp hn) (I2.hok.laid k2 hp ⟨hlen, out.toList, c, hv, hg3⟩) (by rw [g2]; exact I2.bare) (fun _ z => nomatch z)
  have e : s' = { s1 with heap := s'.heap, gens := s'.gens, drawn := s'.drawn, toks := s'.toks } := by
    cases s'
    cases s1
    cases o2
    rfl
  rw [e]
  have sk : ∀ b ∈ L', SqT X.K H1 b.1 [.int b.2.1, .str (lS ⟨b.2.2.1, false⟩), .int b.2.2.2] := fun b hb => e3 b (hL' b hb)
  refine ⟨.ref p, _, J, rfl, q1 p _ (L'.map (·.2)) hn ⟨?_, ?_, ?_⟩ (data_refs sk)⟩
  · have h1 := Z.uniq
    rw [eL, List.map_map] at h1
    have h2 : (Lw.map (·.2)).Nodup := by
      refine L2.nodup_of_map (f := kW) ?_
      rw [List.map_map]
      exact h1
    exact (pm.map (·.2)).nodup_iff.mpr h2
  · exact List.pairwise_map.mpr pw
  · intro x
    rw [(pm.map (·.2)).mem_iff, ← e1]
    constructor
    · intro hx
      obtain ⟨b, hb, rfl⟩ := List.mem_map.mp hx
      exact List.mem_map.mpr ⟨b, hLw b hb, rfl⟩
    · intro hx
      obtain ⟨b, hb, rfl⟩ := List.mem_map.mp hx
      have h1 := g.all (b.1, kW b.2) (by rw [List.take_length]; exact List.mem_map.mpr ⟨b, hb, rfl⟩)
      rw [eL, List.map_map] at h1
      obtain ⟨c, hc, ec⟩ := List.mem_map.mp h1
      refine List.mem_map.mpr ⟨c, hc, kW_inj ec⟩
end
end Rb
/-! The law's own steps, and its laying of rows. -/
namespace Rb
set_option linter.all false
set_option maxRecDepth 100000
set_option maxHeartbeats 4000000
open PySem PySem.Spec PyProof.Rows L2
theorem row_at {r : Row} {i : Nat} {x : Lt} (h : r[i]? = some x) : atI (rS r).cps.toList (i : Int) = some x.c := atI_nat (by rw [rS_list, List.getElem?_map, h]; rfl)
theorem low_test2 (x : Lt) : decide (V.str ⟨#[x.c]⟩ = V.str (Txt.lower ⟨#[x.c]⟩)) = !x.u := by
  show decide (V.str (lS x) = V.str (Txt.lower (lS x))) = _
  rw [lower_lt]
  obtain ⟨d, u⟩ := x
  cases u with
  | true =>
    exact decide_eq_false fun z => by
      have := lS_inj (V.str.inj z)
      cases this
  | false => exact decide_eq_true rfl
theorem laidL_snoc : ∀ (rs : List Row) (f : Nat) (r : Row), laidL f (rs ++ [r]) = laidL f rs ++ chainA 0 0 (laidLMany f rs) (net r)
  | [], f, r => by
    show chainA 0 0 f (net r) ++ [] = [] ++ chainA 0 0 f (net r)
    simp
  | r' :: rs, f, r => by
    show chainA 0 0 f (net r') ++ laidL _ (rs ++ [r]) = (chainA 0 0 f (net r') ++ laidL _ rs) ++ _
    rw [laidL_snoc rs, List.append_assoc]
    rfl
theorem laidLMany_snoc : ∀ (rs : List Row) (f : Nat) (r : Row), laidLMany f (rs ++ [r]) = laidLMany f rs + ((net r).length - 1)
  | [], f, r => rfl
  | r' :: rs, f, r => laidLMany_snoc rs (f + ((net r').length - 1)) r
theorem laidL_le : ∀ (rs : List Row) (f m : Nat), (∀ r ∈ rs, r.length ≤ m) → (laidL f rs).length ≤ m * rs.length ∧ laidLMany f rs ≤ f + m * rs.length
  | [], f, m, _ => ⟨Nat.zero_le _, Nat.le_refl _⟩
  | r :: rs, f, m, h => by
    obtain ⟨h1, h2⟩ := laidL_le rs (f + ((net r).length - 1)) m fun r hr => h r (by simp [hr])
    have h3 := net_length_le r
    have h4 := h r (by simp)
    have e : m * (r :: rs).length = m + m * rs.length := by rw [List.length_cons, Nat.mul_succ]; omega
    rw [e]
    constructor
    · show (chainA 0 0 f (net r) ++ laidL _ rs).length ≤ _
      rw [List.length_append, chainA_len]
      omega
    · show laidLMany (f + ((net r).length - 1)) rs ≤ _
      omega
section
variable {P : Program} {w : World} {K : PySem.W.Frag} {mg : Str → Option Value} {base : Heap}
def spLSteps (K : PySem.W.Frag) : Sp := fun vs H Q _ => ∃ (a : Addr) (W : List Way), vs = [.ref a] ∧ WaysIn K H a W ∧ W.length ≤ 100000 ∧
  ∀ p kvs H', H p = none → Same H H' → H' p = some (.dT kvs) → Fk kvs (stepsD W) → Q (.ref p) H'
theorem ok__law_steps (T : Top K mg) : FnOk P w K mg base CX0 1 T.d__law_steps.f T.d__law_steps.d ["_law_ways"] (spLSteps K) := by
  refine T.d__law_steps.F.ok sc__law_steps (fun vs H Q E h => ?_) (fun cdv A outer s H vs Q E hr h => ?_)
  · obtain ⟨a, W, rfl, _⟩ := h
    rfl
  · obtain ⟨a, W, rfl, ⟨xs, hv, hD⟩, hlen, q⟩ := h
    have hu := hu_of hr
    refine ⟨_,
      (pss_cons (ps_set (i := 1) sc__law_steps.nd rfl (Or.inl rfl) pe_dnewT)
      (pss_cons (ps_for PassesOwn.never rfl (pi_seq (pv 0)) (pg_tup (by rfl) (pgs_cons (pg_name (i := 2) sc__law_steps.nd rfl (Or.inl rfl)) (pgs_cons (pg_name (i := 3) sc__law_steps.nd rfl (Or.inl rfl)) (pgs_cons (pg_name (i := 4) sc__law_steps.nd rfl (Or.inl rfl)) pgs_nil))))
      (pss_cons (ps_dput hu (pv 1) (pe_tup (pa_cons (pv 2) (pa_cons (pv 3) pa_nil))) (pv 4) rfl)
      (pss_one (ps_dput hu (pv 1) (pe_tup (pa_cons (pv 4) (pa_cons (pe_upper (pv 3)) pa_nil))) (pv 2) rfl))))
      (pss_one (ps_ret (pv 1)))))
      , ?_⟩
    intro d hd
    have s1 : Same H (upd H d (.dT [])) := same_new hd
    have hvl : xs.length = W.length := by rw [dp_len hD, List.length_map]
    refine ⟨_, rfl, a, rfl, for_seq (K := K) (xs := xs) (ds := W) hvl (fun pre σ H' => ∃ v2 v3 v4 kvs, σ = [some (.ref a), some (.ref d), v2, v3, v4] ∧ Same H H' ∧ H' d = some (.dT kvs) ∧ Fk kvs (stepsD pre) ∧ kvs.length ≤ 2 * pre.length)
      ⟨none, none, none, [], rfl, s1, upd_same, fun p x => rfl, by simp⟩ ?_ ?_ ?_⟩
    · rcases hv with h | h
      · refine .inl ?_
        rintro pre σ H' ⟨_, _, _, _, _, s2, _⟩
        exact SqL.of (s2 _ _ h)
      · refine .inr ?_
        rintro pre σ H' ⟨_, _, _, _, _, s2, _⟩
        exact SqT.of (s2 _ _ h)
    · rintro pre w post x σ H' e hx ⟨v2, v3, v4, kvs, rfl, s2, hd2, hF, hl⟩
      obtain ⟨t, rfl, ht⟩ := way_at (dpAll_same s2 hD) e hx
      have hpre : pre.length < 100000 := by
        have := congrArg List.length e
        simp at this
        omega
      obtain ⟨p0, d0, q0⟩ := w
      simp only at ht
      refine ⟨t, _, rfl, ht, rfl, _, _, rfl, _, _, rfl, _, _, rfl, rfl, ?_⟩
      refine ⟨_, rfl, _, rfl, _, rfl, _, rfl, (by show 2 ≤ sizeLine; decide), fun k hk => ?_⟩
      have hdk : d ≠ k := ne_of_none hd2 hk
      refine ⟨d, _, rfl, DPut.t (k := keyL p0 ⟨d0, false⟩) (same_new hk _ _ hd2) upd_same (sz1M (by omega)), ?_⟩
      have s3 : Same H (upd (upd H' k (.tup [.int p0, .str (lS ⟨d0, false⟩)])) d (.dT (putK kvs (keyL p0 ⟨d0, false⟩) (.int q0)))) := same_mut (s2.trans (same_new hk)) hd
      have l3 := length_putK kvs (keyL p0 ⟨d0, false⟩) (V.int q0)
      refine ⟨_, rfl, _, rfl, _, rfl, _, rfl, ⟨_, rfl⟩, _, rfl, rfl, by show 1 ≤ _; decide, (by show 2 ≤ sizeLine; decide), fun k2 hk2 => ?_⟩
      have hdk2 : d ≠ k2 := ne_of_none upd_same hk2
      rw [upper_lt]
      refine ⟨d, _, rfl, DPut.t (k := keyL q0 ⟨d0, true⟩) (same_new hk2 _ _ upd_same) upd_same (sz1M (by omega)), ?_⟩
      have l4 := length_putK (putK kvs (keyL p0 ⟨d0, false⟩) (.int q0)) (keyL q0 ⟨d0, true⟩) (V.int p0)
      refine ⟨_, _, _, _, rfl, same_mut (s3.trans (same_new hk2)) hd, upd_same, ?_, by rw [List.length_append]; simp only [List.length_cons, List.length_nil]; omega⟩
      rw [stepsD_snoc]
      exact (hF.put p0 ⟨d0, false⟩ q0).put q0 ⟨d0, true⟩ p0
    · rintro σ H' ⟨v2, v3, v4, kvs, rfl, s2, hd2, hF, _⟩
      exact ⟨_, rfl, q d kvs H' hd s2 hd2 hF⟩
def spLead : Sp := fun vs H Q _ => ∃ (a : Addr) (kvs : List (List L2.Key × V)) (δ : Nat → Lt → Option Nat) (p : Nat) (r : Row), vs = [.ref a, .int p, .str (rS r)] ∧ H a = some (.dT kvs) ∧ Fk kvs δ ∧ ∀ H', Same H H' → Q (oV (walkD δ p r)) H'
theorem ok__law_lead (T : Top K mg) : FnOk P w K mg base CX0 1 T.d__law_lead.f T.d__law_lead.d ["_law_steps_here", "_law_place", "_law_row"] spLead := by
  refine T.d__law_lead.F.ok sc__law_lead (fun vs H Q E h => ?_) (fun cdv A outer s H vs Q E hr h => ?_)
  · obtain ⟨a, kvs, δ, p, r, rfl, _⟩ := h
    rfl
  · obtain ⟨a, kvs, δ, p, r, rfl, ha, hF, q⟩ := h
    have hu := hu_of hr
    refine ⟨_,
      (pss_cons (ps_for PassesOwn.never rfl (pi_str (pv 2)) (pg_name (i := 3) sc__law_lead.nd rfl (Or.inl rfl))
      (pss_cons (ps_set (i := 1) sc__law_lead.nd rfl (Or.inl rfl) (pe_dget1 hu (pv 0) (pe_tup (pa_cons (pv 1) (pa_cons (pv 3) pa_nil))) ⟨rfl, rfl, rfl, rfl⟩))
      (pss_one (ps_if (pt_cmpR op_isN (pv 1) pe_non (nomark _))
      (pss_one (ps_ret pe_non))
      pss_nil))))
      (pss_one (ps_ret (pv 1))))
      , ?_⟩
    refine ⟨_, rfl, _, rfl, for_row (r := r) (fun pre σ H' => ∃ pl v3, σ = [some (.ref a), some (.int (pl : Nat)), some (.str (rS r)), v3] ∧ Same H H' ∧ walkD δ p pre = some pl) ⟨p, none, rfl, Same.refl _, rfl⟩ ?_ ?_⟩
    · rintro pre x post σ H' e ⟨pl, v3, rfl, s1, hw⟩
      refine ⟨_, rfl, a, rfl, .inr ⟨_, .inl (s1 _ _ ha)⟩, _, rfl, _, rfl, (by show 2 ≤ sizeLine; decide), fun k hk => ?_⟩
      have sk : Same H' (upd H' k (.tup [.int pl, .str (lS x)])) := same_new hk
      refine ⟨_, DGet.t (k := keyL pl x) (sk _ _ (s1 _ _ ha)) upd_same, ?_⟩
      rw [hF pl x]
      cases hg : δ pl x with
      | none =>
        refine ⟨_, rfl, rfl, _, rfl, ?_⟩
        refine iteT ?_
        have h1 : walkD δ p r = none := by
          rw [e, show pre ++ x :: post = (pre ++ [x]) ++ post by simp]
          refine walkD_none δ _ _ _ ?_
          rw [walkD_snoc, hw]
          exact hg
        have := q _ (s1.trans sk)
        rw [h1] at this
        exact this
      | some g =>
        refine ⟨_, rfl, rfl, _, rfl, ?_⟩
        refine iteF ?_
        refine ⟨g, _, rfl, s1.trans sk, ?_⟩
        rw [walkD_snoc, hw]
        exact hg
    · rintro σ H' ⟨pl, v3, rfl, s1, hw⟩
      refine ⟨_, rfl, ?_⟩
      have := q H' s1
      rw [hw] at this
      exact this
def spLaid (K : PySem.W.Frag) : Sp := fun vs H Q _ => ∃ (a : Addr) (rs : List Row), vs = [.ref a] ∧ RowsAt K H a rs ∧ rs.length ≤ 50 ∧ (∀ r ∈ rs, r.length ≤ 1000) ∧ ∀ p H', H p = none → Same H H' → WaysAt K H' p (fwd (laidL 1 rs)) → Q (.ref p) H'
theorem ok__law_laid (T : Top K mg) : FnOk P w K mg base CX0 3 T.d__law_laid.f T.d__law_laid.d ["_law_rows_here"] (spLaid K) := by
  refine T.d__law_laid.F.ok sc__law_laid (fun vs H Q E h => ?_) (fun cdv A outer s H vs Q E hr h => ?_)
  · obtain ⟨a, rs, rfl, _⟩ := h
    rfl
  · obtain ⟨a, rs, rfl, hR, hm1, hm2, q⟩ := h
    have hu := hu_of hr
    refine ⟨_,
      (pss_cons (ps_set (i := 1) sc__law_laid.nd rfl (Or.inl rfl) (pe_lst pa_nil))
      (pss_cons (ps_set (i := 2) sc__law_laid.nd rfl (Or.inl rfl) pe_int)
      (pss_cons (ps_for PassesOwn.never rfl (pi_seq (pv 0)) (pg_name (i := 3) sc__law_laid.nd rfl (Or.inl rfl))
      (pss_cons (ps_set (i := 4) sc__law_laid.nd rfl (Or.inl rfl) (pe_call (ok__law_net T) (hr.mono (by decide)) (by rfl) T.d__law_net.g T.d__law_net.F.kp T.d__law_net.b .nil pass0 (pa_cons (pv 3) pa_nil)))
      (pss_cons (ps_set (i := 5) sc__law_laid.nd rfl (Or.inl rfl) pe_int)
      (pss_one (ps_for PassesOwn.never rfl (pi_range1 (by rfl) T.z_range (pa_cons (pe_callB call_len_str (by rfl) T.z_len (by decide +kernel) (pa_cons (pv 4) pa_nil)) pa_nil)) (pg_name (i := 6) sc__law_laid.nd rfl (Or.inl rfl))
      (pss_cons (ps_set (i := 7) sc__law_laid.nd rfl (Or.inl rfl) pe_int)
      (C8.pss_cut (ps_if (pt_cmpR op_lt (pv 6) (pe_op op_sub (pe_callB call_len_str (by rfl) T.z_len (by decide +kernel) (pa_cons (pv 4) pa_nil)) pe_int) (nomark _))
      (pss_cons (ps_set (i := 7) sc__law_laid.nd rfl (Or.inl rfl) (pv 2))
      (pss_one (ps_set (i := 2) sc__law_laid.nd rfl (Or.inl rfl) (pe_op op_add (pv 2) pe_int))))
      pss_nil)
      (C8.pss_cut (ps_if (pt_cmpR op_eq (pe_ix ix_str (pv 4) (pv 6) (fun _ _ => rfl)) (pe_lower (pe_ix ix_str (pv 4) (pv 6) (fun _ _ => rfl))) (nomark _))
      (pss_one (ps_expr (pe_bm PySem.F.plainAttrs_list PySem.F.slot_list_append PySem.F.type_list_append mt_append (pv 1) (pa_cons (pe_tup (pa_cons (pv 5) (pa_cons (pe_ix ix_str (pv 4) (pv 6) (fun _ _ => rfl)) (pa_cons (pv 7) pa_nil)))) pa_nil))))
      (pss_one (ps_expr (pe_bm PySem.F.plainAttrs_list PySem.F.slot_list_append PySem.F.type_list_append mt_append (pv 1) (pa_cons (pe_tup (pa_cons (pv 7) (pa_cons (pe_lower (pe_ix ix_str (pv 4) (pv 6) (fun _ _ => rfl))) (pa_cons (pv 5) pa_nil)))) pa_nil)))))
      (pss_one (ps_set (i := 5) sc__law_laid.nd rfl (Or.inl rfl) (pv 7)))))))))))
      (pss_one (ps_ret (pv 1))))))
      , ?_⟩
    refine ⟨(by show 0 ≤ sizeLine; decide), fun d hd => ?_⟩
    have s1 : Same H (upd H d (.lst [])) := same_new hd
    refine ⟨_, rfl, a, rfl, for_seq (K := K) (xs := encR rs) (ds := rs) (List.length_map _) (fun pre σ H' => ∃ v3 v4 v5 v6 v7 acc, σ = [some (.ref a), some (.ref d), some (.int (laidLMany 1 pre : Nat)), v3, v4, v5, v6, v7] ∧ Same H H' ∧ H' d = some (.lst acc) ∧ DpAll K H' acc ((fwd (laidL 1 pre)).map encW))
      ⟨none, none, none, none, none, [], rfl, s1, upd_same, .nil⟩ ?_ ?_ ?_⟩
    · rcases hR with h | h
      · refine .inl ?_
        rintro pre σ H' ⟨_, _, _, _, _, _, _, s2, _⟩
        exact SqL.of (s2 _ _ h)
      · refine .inr ?_
        rintro pre σ H' ⟨_, _, _, _, _, _, _, s2, _⟩
        exact SqT.of (s2 _ _ h)
    · rintro pre r post x σ H' e hx ⟨v3, v4, v5, v6, v7, acc, rfl, s2, hd2, hD⟩
      have ex := encR_at e hx
      subst ex
      have hpre : pre.length < 50 := by
        have := congrArg List.length e
        simp at this
        omega
      have hrl := hm2 r (by rw [e]; simp)
      have hbig := laidL_le pre 1 1000 (fun r hr => hm2 r (by rw [e]; simp [hr]))
      have hnl := net_length_le r
      refine ⟨_, rfl, r, rfl, by omega, fun H1 s3 => ?_⟩
      have hd3 : H1 d = some (.lst acc) := s3 _ _ hd2
      have hal : acc.length = (laidL 1 pre).length := by rw [dp_len hD, List.length_map]; unfold fwd; rw [List.length_map]
      generalize hf : laidLMany 1 pre = f at *
      have hsz : (rS (net r)).length ≤ sizeLine := by rw [rS_len]; exact Nat.le_of_lt (sz1M (by omega))
      have hnr : (net r).length ≤ 1000 := by omega
      refine ⟨_, rfl, _, rfl, hsz, (net r).length, by rw [rS_len], by omega, by omega, ?_⟩
      generalize hn : net r = nr at *
      refine for_range (lo := 0) (n := nr.length) (fun i σ H' => ∃ pl A acc v6 v7, σ = [some (.ref a), some (.ref d), some (.int (f + min i (nr.length - 1) : Nat)), some (.str (rS r)), some (.str (rS nr)), some (.int (pl : Nat)), v6, v7] ∧ Same H H' ∧ H' d = some (.lst acc) ∧
          DpAll K H' acc ((fwd (laidL 1 pre ++ A)).map encW) ∧ chainA 0 0 f nr = A ++ chainA pl 0 (f + i) (nr.drop i) ∧ A.length = i)
        ⟨0, [], acc, v6, v7, ?_, s2.trans s3, hd3, by rw [List.append_nil]; exact dpAll_same s3 hD, rfl, rfl⟩ ?_ ?_
      · rw [Nat.zero_min]
        rfl
      · rintro i σ H3 hi ⟨pl, A, acc, v6, v7, rfl, s4, gd, hD4, hc, hA⟩
        have hi2 : i < nr.length := hi
        obtain ⟨x, hx⟩ : ∃ x, nr[i]? = some x := ⟨_, List.getElem?_eq_getElem hi2⟩
        have hdrop : nr.drop i = x :: nr.drop (i + 1) := by
          rw [List.drop_eq_getElem_cons hi2]
          rw [List.getElem?_eq_getElem hi2] at hx
          rw [Option.some.inj hx]
        have erest : nr.drop (i + 1) = [] ↔ ¬ i + 1 < nr.length := by
          rw [List.drop_eq_nil_iff]
          omega
        rw [hdrop, chainA_step] at hc
        have eg : (if nr.drop (i + 1) = [] then 0 else f + i) = if i + 1 < nr.length then f + i else 0 := by
          by_cases h : i + 1 < nr.length
          · rw [if_neg (fun z => erest.mp z h), if_pos h]
          · rw [if_pos (erest.mpr h), if_neg h]
        rw [eg] at hc
        have ef : f + min i (nr.length - 1) = f + i := by omega
        have acclen : acc.length = (laidL 1 pre).length + i := by rw [dp_len hD4, List.length_map]; unfold fwd; rw [List.length_map, List.length_append, hA]
        have elen : ((rS nr).length : Int) = (nr.length : Nat) := by rw [rS_len]
        have ek : (0 + (i : Int)) = (i : Nat) := by omega
        rw [ek]
        refine ⟨fun σ H' => σ = [some (.ref a), some (.ref d), some (.int (f + min (i + 1) (nr.length - 1) : Nat)), some (.str (rS r)), some (.str (rS nr)), some (.int (pl : Nat)), some (.int (i : Nat)), some (.int ((if i + 1 < nr.length then f + i else 0 : Nat) : Int))] ∧ H' = H3, ?_, ?_⟩
        · refine ⟨_, rfl, _, rfl, _, rfl, hsz, _, _, rfl, rfl, _, _, rfl, rfl, _, rfl, ?_⟩
          rw [elen]
          by_cases h : i + 1 < nr.length
          · rw [decide_eq_true (show ((i : Nat) : Int) < (nr.length : Nat) - 1 by omega)]
            refine iteT ?_
            refine ⟨_, rfl, _, rfl, _, _, rfl, rfl, ?_, rfl⟩
            have e1 : ((f + min i (nr.length - 1) : Nat) : Int) + 1 = ((f + min (i + 1) (nr.length - 1) : Nat) : Int) := by omega
            show ([some (.ref a), some (.ref d), some (.int (((f + min i (nr.length - 1) : Nat) : Int) + 1)), some (.str (rS r)), some (.str (rS nr)), some (.int pl), some (.int i), some (.int ((f + min i (nr.length - 1) : Nat)))] : L2.St) = _
            rw [e1, ef, if_pos h]
          · rw [decide_eq_false (show ¬ ((i : Nat) : Int) < (nr.length : Nat) - 1 by omega)]
            refine iteF ?_
            refine ⟨?_, rfl⟩
            have e1 : f + min i (nr.length - 1) = f + min (i + 1) (nr.length - 1) := by omega
            rw [e1, if_neg h]
            rfl
        · rintro σ H4 ⟨rfl, rfl⟩
          generalize (if i + 1 < nr.length then f + i else 0) = g at *
          have gat := row_at hx
          refine ⟨fun σ H' => ∃ acc, σ = [some (.ref a), some (.ref d), some (.int (f + min (i + 1) (nr.length - 1) : Nat)), some (.str (rS r)), some (.str (rS nr)), some (.int (pl : Nat)), some (.int (i : Nat)), some (.int (g : Nat))] ∧ Same H H' ∧ H' d = some (.lst acc) ∧
            DpAll K H' acc ((fwd (laidL 1 pre ++ (A ++ [(pl, x, g)]))).map encW), ?_, ?_⟩
          · have put : ∀ k H5, H4 k = none → H5 = upd H4 k (.tup [.int (fwd1 (pl, x, g)).1, .str (lS ⟨(fwd1 (pl, x, g)).2.1, false⟩), .int (fwd1 (pl, x, g)).2.2]) →
                H5 d = some (.lst acc) ∧ Same H (upd H5 d (.lst (acc ++ [.ref k]))) ∧ (upd H5 d (.lst (acc ++ [.ref k]))) d = some (.lst (acc ++ [.ref k])) ∧ DpAll K (upd H5 d (.lst (acc ++ [.ref k]))) (acc ++ [.ref k]) ((fwd (laidL 1 pre ++ (A ++ [(pl, x, g)]))).map encW) := by
              rintro k H5 hk rfl
              have hdk : d ≠ k := ne_of_none gd hk
              have gd5 : (upd H4 k (.tup [.int (fwd1 (pl, x, g)).1, .str (lS ⟨(fwd1 (pl, x, g)).2.1, false⟩), .int (fwd1 (pl, x, g)).2.2])) d = some (.lst acc) := by rw [upd_ne hdk]; exact gd
              refine ⟨gd5, same_mut (s4.trans (same_new hk)) hd, upd_same, ?_⟩
              have k2 : KeepT (upd H4 k (.tup [.int (fwd1 (pl, x, g)).1, .str (lS ⟨(fwd1 (pl, x, g)).2.1, false⟩), .int (fwd1 (pl, x, g)).2.2])) (upd (upd H4 k (.tup [.int (fwd1 (pl, x, g)).1, .str (lS ⟨(fwd1 (pl, x, g)).2.1, false⟩), .int (fwd1 (pl, x, g)).2.2])) d (.lst (acc ++ [.ref k]))) := KeepT.put (.inr (by rw [gd5]; exact True.intro))
              have ea : fwd (laidL 1 pre ++ (A ++ [(pl, x, g)])) = fwd (laidL 1 pre ++ A) ++ [fwd1 (pl, x, g)] := by
                unfold fwd
                simp
              rw [ea, List.map_append]
              exact dp_snoc (dp_of3 (k2.sqT (SqT.of upd_same))) (dpAll_keep k2 (dpAll_same (same_new hk) hD4) (flat_ways _))
            have accs : acc.length < sizeLine := sz1M (by omega)
            refine ⟨_, rfl, _, rfl, _, _, _, rfl, rfl, hsz, gat, _, rfl, _, rfl, _, _, _, rfl, rfl, hsz, gat, ⟨_, rfl⟩, _, rfl, rfl, (by show 1 ≤ _; decide), rfl, _, rfl, ?_⟩
            show if decide (V.str ⟨#[x.c]⟩ = V.str (Txt.lower ⟨#[x.c]⟩)) = true then _ else _
            rw [low_test2]
            obtain ⟨xd, xu⟩ := x
            cases xu with
            | true =>
              refine iteF ?_
              refine ⟨_, rfl, .inl ⟨rfl, _, SqL.of gd⟩, _, rfl, _, rfl, _, rfl, _, _, _, rfl, rfl, hsz, gat, ⟨_, rfl⟩, _, rfl, rfl, (by show 1 ≤ _; decide), _, rfl, (by show 3 ≤ sizeLine; decide), fun k hk => ?_⟩
              have el : Txt.lower ⟨#[(⟨xd, true⟩ : Lt).c]⟩ = lS ⟨xd, false⟩ := lower_lt ⟨xd, true⟩
              rw [el]
              obtain ⟨p1, p2, p3, p4⟩ := put k _ hk rfl
              exact ⟨d, _, _, rfl, rfl, p1, accs, _, rfl, p2, p3, p4⟩
            | false =>
              refine iteT ?_
              refine ⟨_, rfl, .inl ⟨rfl, _, SqL.of gd⟩, _, rfl, _, rfl, _, rfl, _, _, _, rfl, rfl, hsz, gat, _, rfl, (by show 3 ≤ sizeLine; decide), fun k hk => ?_⟩
              obtain ⟨p1, p2, p3, p4⟩ := put k _ hk rfl
              exact ⟨d, _, _, rfl, rfl, p1, accs, _, rfl, p2, p3, p4⟩
          · rintro σ H5 ⟨acc, rfl, s5, gd5, hD5⟩
            refine ⟨_, rfl, g, A ++ [(pl, x, g)], acc, _, _, rfl, s5, gd5, hD5, ?_, by rw [List.length_append, hA]; rfl⟩
            rw [hc, List.append_assoc]
            rfl
      · rintro σ H3 ⟨pl, A, acc, v6, v7, rfl, s4, gd, hD4, hc, hA⟩
        have el : laidLMany 1 (pre ++ [r]) = f + min nr.length (nr.length - 1) := by rw [laidLMany_snoc, hn, hf, Nat.min_eq_right (by omega)]
        show ∃ v3 v4 v5 v6 v7 acc, ([some (V.ref a), some (V.ref d), some (V.int (f + min nr.length (nr.length - 1) : Nat)), _, _, _, _, _] : L2.St) = [_, _, some (V.int ((laidLMany 1 (pre ++ [r]) : Nat) : Int)), v3, v4, v5, v6, v7] ∧ _
        rw [el]
        refine ⟨_, _, _, _, _, acc, rfl, s4, gd, ?_⟩
        · rw [laidL_snoc, hn, hf, hc, List.drop_length]
          show DpAll K H3 acc (List.map encW (fwd (laidL 1 pre ++ (A ++ []))))
          rw [List.append_nil]
          exact hD4
    · rintro σ H' ⟨v3, v4, v5, v6, v7, acc, rfl, s2, hd2, hD⟩
      exact ⟨_, rfl, q d H' hd s2 ⟨acc, hd2, hD⟩⟩
end
end Rb
/-! Two places that must be one. -/
namespace Rb
set_option linter.all false
set_option maxRecDepth 100000
set_option maxHeartbeats 4000000
open PySem PySem.Spec PyProof.Rows L2
theorem dp_drop {K : PySem.W.Frag} {H : Hp} : ∀ (n : Nat) {vs : List V} {ds : List PyData}, DpAll K H vs ds → DpAll K H (vs.drop n) (ds.drop n)
  | 0, _, _, h => h
  | n + 1, _, _, .nil => .nil
  | n + 1, _, _, .cons _ t => dp_drop n t
theorem dp_take {K : PySem.W.Frag} {H : Hp} : ∀ (n : Nat) {vs : List V} {ds : List PyData}, DpAll K H vs ds → DpAll K H (vs.take n) (ds.take n)
  | 0, _, _, h => by rw [List.take_zero, List.take_zero]; exact .nil
  | n + 1, _, _, .nil => .nil
  | n + 1, _, _, .cons h t => .cons h (dp_take n t)
theorem cut_from_id (vs : List V) (n : Nat) : cutV vs (some (n : Int)) none = vs.drop n := by
  have := cutV_from id vs n
  simpa using this
theorem cut_to_id (vs : List V) (n : Nat) : cutV vs none (some (n : Int)) = vs.take n := by
  have := cutV_to id vs n
  simpa using this
/-- the table tells the goals of the ways of pre -/
structure Tells (f : Way → (Nat × Fin 26) × Nat) (t : Tab) (pre : List Way) : Prop where
  has : ∀ w ∈ pre, look t (f w).1 = some (f w).2
  from_ : ∀ k v, look t k = some v → ∃ w ∈ pre, f w = (k, v)
  few : t.length ≤ pre.length
def fA (w : Way) : (Nat × Fin 26) × Nat := ((w.1, w.2.1), w.2.2)
def fI (w : Way) : (Nat × Fin 26) × Nat := ((w.2.2, w.2.1), w.1)
theorem Tells.zero (f : Way → (Nat × Fin 26) × Nat) : Tells f [] [] := ⟨fun w h => by simp at h, fun k v h => by simp [look] at h, Nat.le_refl _⟩
theorem Tells.snoc {f : Way → (Nat × Fin 26) × Nat} {t : Tab} {pre : List Way} (h : Tells f t pre) {w : Way} (hw : ∀ v, look t (f w).1 = some v → v = (f w).2) : Tells f (setd t (f w).1 (f w).2) (pre ++ [w]) := by
  refine ⟨fun v hv => ?_, fun k v hk => ?_, ?_⟩
  · rw [look_setd]
    rcases List.mem_append.mp hv with hv | hv
    · have h1 := h.has v hv
      by_cases e : (f v).1 = (f w).1
      · rw [if_pos e, ← e, h1]
        rfl
      · rw [if_neg e]; exact h1
    · rw [List.mem_singleton.mp hv, if_pos rfl]
      cases e : look t (f w).1 with
      | none => rfl
      | some z => rw [hw z e]; rfl
  · rw [look_setd] at hk
    by_cases e : k = (f w).1
    · rw [if_pos e] at hk
      cases e2 : look t (f w).1 with
      | none =>
        rw [e2] at hk
        refine ⟨w, by simp, ?_⟩
        rw [e, ← Option.some.inj hk]
        rfl
      | some z =>
        rw [e2] at hk
        obtain ⟨u, hu, e3⟩ := h.from_ _ _ e2
        refine ⟨u, by simp [hu], ?_⟩
        rw [e3, e, ← Option.some.inj hk]
        rfl
    · rw [if_neg e] at hk
      obtain ⟨u, hu, e3⟩ := h.from_ _ _ hk
      exact ⟨u, by simp [hu], e3⟩
  · have := setd_len t (f w).1 (f w).2
    rw [List.length_append]
    have := h.few
    simp
    omega
theorem det_tells {t1 t2 : Tab} {W V : List Way} (h1 : Tells fA t1 V) (h2 : Tells fI t2 V) (hm : ∀ w, w ∈ V ↔ w ∈ W) : Det W := by
  intro p x q q' hx hy
  obtain ⟨d, u⟩ := x
  cases u with
  | false =>
    have a := h1.has _ ((hm _).mpr (show (p, d, q) ∈ W by simpa [St] using hx))
    have b := h1.has _ ((hm _).mpr (show (p, d, q') ∈ W by simpa [St] using hy))
    simp only [fA] at a b
    rw [a] at b
    exact Option.some.inj b
  | true =>
    have a := h2.has _ ((hm _).mpr (show (q, d, p) ∈ W by simpa [St] using hx))
    have b := h2.has _ ((hm _).mpr (show (q', d, p) ∈ W by simpa [St] using hy))
    simp only [fI] at a b
    rw [a] at b
    exact Option.some.inj b
theorem same_upto {H H1 H2 : Hp} {S : List Addr} (e : Same H H1) (u : Upto S H1 H2) (hS : ∀ b ∈ S, H b = none) : Same H H2 := fun b o hb => u b o (e b o hb) fun z => by rw [hS b z] at hb; cases hb
theorem setd_some {t : Tab} {k : Nat × Fin 26} {u v : Nat} (h : look t k = some u) : setd t k v = t := by
  unfold setd
  rw [h]
/-- setdefault: what is there, or the new one -/
theorem sd_cases {H3 : Hp} {d : Addr} {t : Tab} {key : Nat × Fin 26} {v : Nat} {Q : V → Hp → Prop} (hd : H3 d = some (.dT (tabT t)))
    (hv : ∀ (u : Nat) H', u = (look t key).getD v → H' d = some (.dT (tabT (setd t key v))) → Upto [d] H3 H' → Q (.int u) H') :
    (∀ x, valV (tabT t) (keyT key) = some x → Q x H3) ∧ (valV (tabT t) (keyT key) = none → Q (.int v) (upd H3 d (.dT (putK (tabT t) (keyT key) (.int v))))) := by
  constructor
  · intro x hx
    rw [valV_tab] at hx
    cases e : look t key with
    | none => rw [e] at hx; simp at hx
    | some z =>
      rw [e] at hx
      simp at hx
      subst hx
      refine hv z H3 (by rw [e]; rfl) ?_ (Upto.refl _ _)
      rw [setd_some e]
      exact hd
  · intro hn
    have e : look t key = none := by
      rw [valV_tab] at hn
      cases e : look t key with
      | none => rfl
      | some z => rw [e] at hn; simp at hn
    refine hv v _ (by rw [e]; rfl) ?_ (upto_in (Upto.refl _ _) (by simp))
    rw [upd_same, putK_tab e]
theorem PoolAt.free {H H' : Hp} {a g p : Addr} (h : PoolAt H' a g) (e : Upto [a, g] H H') (hp : H' p = none) : H p = none :=
  upto_free e (fun b hb _ => by
    have := h.mut b hb
    intro z
    rw [z] at this
    exact this) hp
section
variable {X : Cx} {o e f : Expr} {td ty tx : TE} {apos cpos : Pos}
def tDSetdTab (td ty tx : TE) : TE := fun σ H Q => td σ H fun x H1 => ∃ a, x = .ref a ∧ IsD H1 a ∧ ty σ H1 fun y H2 => tx σ H2 fun z H3 => ∃ (t : Tab) (key : Nat × Fin 26) (v : Nat) (b : Addr),
  H3 a = some (.dT (tabT t)) ∧ y = .ref b ∧ H3 b = some (.tup ((keyT key).map kV)) ∧ (tabT t).length < sizeLine ∧ z = .int v ∧ ∀ (u : Nat) H', u = (look t key).getD v → H' a = some (.dT (tabT (setd t key v))) → Upto [a] H3 H' → Q (.int u) H'
theorem pe_dsetdTab (hu : X.A.units + 1 < cLine) (ho : PE X o td) (he : PE X e ty) (hf : PE X f tx) (m : M2 X o "setdefault" apos e f cpos) : PE X (.Call (.Attribute o "setdefault" apos) [e, f] [] cpos) (tDSetdTab td ty tx) := by
  refine ⟨fun pins s σ H Q I h => ?_⟩
  refine wpAny_Call_method m.base m.few m.line F.plainAttrs_dict F.slot_dict_setdefault F.type_dict_setdefault (thn (ho.run pins s σ H _ I h) fun u s1 ⟨x, H1, I1, rx, a, ex, d, q1⟩ => ?_)
  subst ex
  obtain rfl : u = Value.ref a := rx
  obtain ⟨t1, t2, _⟩ := isD_at I1 d
  refine ⟨t1, t2, ?_⟩
  rw [m.trees]
  refine Calls.callWith_builtin rfl (Calls.evalArgs_plain (Calls.spliced_cons (thn (he.run pins s1 σ H1 _ I1 q1) fun iv s2 ⟨y, H2, I2, ry, q2⟩ =>
    Calls.spliced_cons (thn (hf.run pins s2 σ H2 _ I2 q2) fun fv s3 ⟨z, H3, I3, rz, tb, key, vn, b, ea, ey, eb, hl, ez, qq⟩ => Calls.spliced_nil ?_))))
  subst ey ez
  obtain ⟨q3, q4⟩ := sd_cases ea qq
  generalize V.int (vn : Nat) = z at *
  generalize tabT tb = kvs at *
  generalize keyT key = k at *
  obtain rfl : iv = Value.ref b := ry
  obtain ⟨hz, hd, xs, rel, dd⟩ := dt_of I3.hok ea
  have hlen := Paired.length rel
  refine call_setdefault_heap (hsz := by rw [← hlen]; exact hz) (tupleKind_room_in1 hu) (key_of I3.hok eb) hd dd (fun p hp => ?_) fun hn h' dd' hs => ?_
  · obtain ⟨v, hv, rv⟩ : ∃ v, valV kvs k = some v ∧ RelV v p.2 := by
      have hr := rel.val k
      rw [hp] at hr
      cases e : valV kvs k with
      | none => rw [e] at hr; exact hr.elim
      | some v => rw [e] at hr; exact ⟨v, rfl, hr⟩
    exact ⟨v, H3, I3.tok _, rv, q3 v hv⟩
  · have hv : valV kvs k = none := by
      have hr := rel.val k
      rw [hn] at hr
      cases e : valV kvs k with
      | none => rfl
      | some v => rw [e] at hr; exact hr.elim
    obtain ⟨q, es, ep, hq, h2, h3, h4, _, h5⟩ := dd'
    have hl2 : (putK kvs k z).length ≤ sizeLine := by have := length_putK kvs k z; omega
    refine ⟨z, _, d_write (ob := .dT (putK kvs k z)) I3 (by rw [ea]; exact True.intro) hs ⟨q, hq⟩ ⟨hl2, hd, _, (rel.put k eb rz).keeps fun c ys ec => ?_, q, es, ep, hq, h2, h3, h4, h5⟩, rz, q4 hv⟩
    rw [upd_ne (ne_of ec ea (fun z => nomatch z))]
    exact ec
end
section
variable {P : Program} {w : World} {K : PySem.W.Frag} {mg : Str → Option Value} {base : Heap}
def spClash (K : PySem.W.Frag) : Sp := fun vs H Q _ => ∃ (a g b : Addr) (W : List Way), vs = [.ref a, .ref b] ∧ PoolAt H a g ∧ WaysAt K H b W ∧ b ∉ [a, g] ∧ W.length ≤ 1000 ∧ (∀ H', PoolAt H' a g → Upto [a, g] H H' → Det W → Q .non H') ∧
  ∀ p H' x y, H p = none → PoolAt H' a g → Upto [a, g] H H' → H' p = some (.lst [.int (x : Nat), .int (y : Nat)]) → Clash W x y → Q (.ref p) H'
theorem ok__law_clash (T : Top K mg) : FnOk P w K mg base CX0 2 T.d__law_clash.f T.d__law_clash.d ["_law_pool_here", "_law_ways"] (spClash K) := by
  refine T.d__law_clash.F.ok sc__law_clash (fun vs H Q E h => ?_) (fun cdv A outer s H vs Q E hr h => ?_)
  · obtain ⟨a, g, b, W, rfl, _⟩ := h
    rfl
  · obtain ⟨a, g, b, W, rfl, hP, ⟨vs, hv, hD⟩, bn, hlen, q1, q2⟩ := h
    have hu := hu_of hr
    refine ⟨_,
      (pss_cons (ps_set (i := 2) sc__law_clash.nd rfl (Or.inl rfl) pe_int)
      (C8.pss_cut (ps_if (pt_cmpR op_gt (pe_callB call_len_seq (by rfl) T.z_len (by decide +kernel) (pa_cons (pv 1) pa_nil)) pe_int (nomark _))
      (pss_one (ps_set (i := 2) sc__law_clash.nd rfl (Or.inl rfl) (pe_call (ok__law_draw T) (hr.mono (by decide)) (by rfl) T.d__law_draw.g T.d__law_draw.F.kp T.d__law_draw.b .nil pass0 (pa_cons (pv 0) (pa_cons (pe_callB call_len_seq (by rfl) T.z_len (by decide +kernel) (pa_cons (pv 1) pa_nil)) pa_nil)))))
      pss_nil)
      (pss_cons (ps_set (i := 3) sc__law_clash.nd rfl (Or.inl rfl) pe_dnewT)
      (pss_cons (ps_set (i := 4) sc__law_clash.nd rfl (Or.inl rfl) pe_dnewT)
      (pss_cons (ps_for PassesOwn.never rfl (pi_list (pe_op op_cat (pe_slice sl_list (pv 1) (po_some (pv 2)) po_none) (pe_slice sl_list (pv 1) po_none (po_some (pv 2))))) (pg_tup (by rfl) (pgs_cons (pg_name (i := 5) sc__law_clash.nd rfl (Or.inl rfl)) (pgs_cons (pg_name (i := 6) sc__law_clash.nd rfl (Or.inl rfl)) (pgs_cons (pg_name (i := 7) sc__law_clash.nd rfl (Or.inl rfl)) pgs_nil))))
      (pss_cons (ps_if (pt_cmpR op_ne (pe_dsetdTab hu (pv 3) (pe_tup (pa_cons (pv 5) (pa_cons (pv 6) pa_nil))) (pv 7) ⟨rfl, rfl, rfl, rfl⟩) (pv 7) (nomark _))
      (pss_one (ps_ret (pe_lst (pa_cons (pe_dget hu (pv 3) (pe_tup (pa_cons (pv 5) (pa_cons (pv 6) pa_nil))) (fun _ _ => rfl)) (pa_cons (pv 7) pa_nil)))))
      pss_nil)
      (pss_one (ps_if (pt_cmpR op_ne (pe_dsetdTab hu (pv 4) (pe_tup (pa_cons (pv 7) (pa_cons (pv 6) pa_nil))) (pv 5) ⟨rfl, rfl, rfl, rfl⟩) (pv 5) (nomark _))
      (pss_one (ps_ret (pe_lst (pa_cons (pe_dget hu (pv 4) (pe_tup (pa_cons (pv 7) (pa_cons (pv 6) pa_nil))) (fun _ _ => rfl)) (pa_cons (pv 5) pa_nil)))))
      pss_nil))))
      (pss_one (ps_ret pe_non)))))))
      , ?_⟩
    have hvl : vs.length = W.length := by rw [dp_len hD, List.length_map]
    refine ⟨fun σ H' => ∃ n : Nat, σ = [some (.ref a), some (.ref b), some (.int n), none, none, none, none, none] ∧ n ≤ W.length ∧ PoolAt H' a g ∧ Upto [a, g] H H', ?_, ?_⟩
    · refine ⟨_, rfl, b, vs, rfl, .inl (SqL.of hv), _, _, rfl, rfl, _, rfl, ?_⟩
      refine ite2 (fun c => ?_) (fun c => ?_)
      · have hpos : 0 < vs.length := by
          have := of_decide_eq_true c
          omega
        refine ⟨_, rfl, _, rfl, b, vs, rfl, .inl (SqL.of hv), a, g, vs.length, rfl, hP, hpos, by omega, fun n H1 hn hP1 u1 => ?_⟩
        exact ⟨n, rfl, by omega, hP1, u1⟩
      · exact ⟨0, rfl, by omega, hP, Upto.refl _ _⟩
    · rintro σ H1 ⟨n, rfl, hn, hP1, u1⟩
      have hv1 := u1 _ _ hv bn
      have k1 : KeepT H H1 := keep_upto u1 hP.mut
      have hD1 := dpAll_keep k1 hD (flat_ways _)
      intro ah hah
      have sA : Same H1 (upd H1 ah (.dT [])) := same_new hah
      intro ih hih
      have sI := sA.trans (same_new hih (o := .dT []))
      have hai : ah ≠ ih := ne_of_none upd_same hih
      generalize hH2 : upd (upd H1 ah (.dT [])) ih (.dT []) = H2 at *
      have gA : H2 ah = some (.dT []) := by rw [← hH2, upd_ne hai]; exact upd_same
      have gI : H2 ih = some (.dT []) := by rw [← hH2]; exact upd_same
      have hv2 := sI _ _ hv1
      have hih1 : H1 ih = none := sA.free hih
      refine ⟨_, rfl, _, rfl, n, rfl, b, vs, rfl, SqL.of hv2, fun p hp => ?_⟩
      have sp := same_new hp (o := .lst (cutV vs (some (n : Int)) none))
      rw [cut_from_id] at sp ⊢
      refine ⟨_, rfl, _, rfl, n, rfl, b, vs, rfl, SqL.of (sp _ _ hv2), fun p2 hp2 => ?_⟩
      have sp2 := sp.trans (same_new hp2 (o := .lst (cutV vs none (some (n : Int)))))
      rw [cut_to_id] at sp2 ⊢
      have hpp : p ≠ p2 := ne_of_none upd_same hp2
      have gp : (upd (upd H2 p (.lst (vs.drop n))) p2 (.lst (vs.take n))) p = some (.lst (vs.drop n)) := by rw [upd_ne hpp]; exact upd_same
      refine ⟨p, p2, vs.drop n, vs.take n, rfl, rfl, gp, upd_same, ?_, fun l hl => ?_⟩
      · rw [List.length_drop, List.length_take]
        exact Nat.le_of_lt (sz1M (by omega))
      have sl := sp2.trans (same_new hl (o := .lst (vs.drop n ++ vs.take n)))
      generalize hH3 : upd (upd (upd H2 p (.lst (vs.drop n))) p2 (.lst (vs.take n))) l (.lst (vs.drop n ++ vs.take n)) = H3 at *
      have gl : H3 l = some (.lst (vs.drop n ++ vs.take n)) := by rw [← hH3]; exact upd_same
      have hD3 : DpAll K H3 (vs.drop n ++ vs.take n) ((W.drop n ++ W.take n).map encW) := by
        have h1 := dpAll_same (sI.trans sl) hD1
        rw [List.map_append, List.map_drop, List.map_take]
        exact dp_app (dp_drop n h1) (dp_take n h1)
      have hmem : ∀ x, x ∈ W.drop n ++ W.take n ↔ x ∈ W := fun x => by
        rw [List.mem_append, or_comm, ← List.mem_append, List.take_append_drop]
      have hl2 : (vs.drop n ++ vs.take n).length = (W.drop n ++ W.take n).length := by
        have := dp_len hD3
        rwa [List.length_map] at this
      have hlW : (W.drop n ++ W.take n).length = W.length := by
        rw [List.length_append, List.length_drop, List.length_take]
        omega
      generalize hW2 : W.drop n ++ W.take n = W2 at *
      generalize hvs2 : vs.drop n ++ vs.take n = vs2 at *
      have sH := sI.trans sl
      have h1a : H1 ah = none := hah
      refine ⟨l, rfl, ⟨_, SqL.of gl⟩, for_dl (K := K) (xs := vs2) (ds := W2) hl2 (fun pre σ H' => ∃ v5 v6 v7 t1 t2, σ = [some (.ref a), some (.ref b), some (.int (n : Nat)), some (.ref ah), some (.ref ih), v5, v6, v7] ∧ Same H1 H' ∧ H' l = some (.lst vs2) ∧ DpAll K H' vs2 (W2.map encW) ∧
          H' ah = some (.dT (tabT t1)) ∧ H' ih = some (.dT (tabT t2)) ∧ Tells fA t1 pre ∧ Tells fI t2 pre)
        ⟨none, none, none, [], [], rfl, sH, gl, hD3, sl _ _ gA, sl _ _ gI, Tells.zero _, Tells.zero _⟩ ?_ ?_ ?_⟩
      · rintro pre σ H' ⟨_, _, _, _, _, _, _, h, _⟩
        exact SqL.of h
      · rintro pre w post x σ H' e hx ⟨v5, v6, v7, t1, t2, rfl, s4, gl4, hD4, gA4, gI4, hT1, hT2⟩
        obtain ⟨t, rfl, ht⟩ := way_at hD4 e hx
        have hpre : pre.length < 1000 := by
          have := congrArg List.length e
          rw [hlW] at this
          simp at this
          omega
        obtain ⟨p0, d0, q0⟩ := w
        simp only at ht
        have hpW : ∀ z ∈ pre, z ∈ W := fun z hz => (hmem z).mp (by rw [e]; simp [hz])
        have hwW : (p0, d0, q0) ∈ W := (hmem _).mp (by rw [e]; simp)
        refine ⟨t, _, rfl, ht, rfl, _, _, rfl, _, _, rfl, _, _, rfl, rfl, ?_⟩
        refine ⟨_, rfl, ah, rfl, .inr ⟨_, .inl gA4⟩, _, rfl, _, rfl, (by show 2 ≤ sizeLine; decide), fun k hk => ?_⟩
        have sk := same_new hk (o := .tup [.int p0, .str (lS ⟨d0, false⟩)])
        have tl1 : (tabT t1).length < sizeLine := by rw [tab_len]; exact sz1M (by have := hT1.few; omega)
        refine ⟨_, rfl, t1, (p0, d0), q0, k, sk _ _ gA4, rfl, upd_same, tl1, rfl, fun u H5 eu hd5 up5 => ?_⟩
        have s5 := same_upto (s4.trans sk) up5 (by simp [h1a])
        have k5 : KeepT H' H5 := (KeepT.of sk).trans (keep_upto up5 (by
          intro b hb
          rw [List.mem_singleton.mp hb, sk _ _ gA4]
          exact True.intro))
        have hp5 : pre.length < 1000 := hpre
        have gl5 := k5.1
        have gI5 : H5 ih = some (.dT (tabT t2)) := up5 _ _ (sk _ _ gI4) (by simp; exact hai.symm)
        have hla : l ≠ ah := ne_of gl4 gA4 (by intro z; cases z)
        have gl5 : H5 l = some (.lst vs2) := up5 _ _ (sk _ _ gl4) (by simp; exact hla)
        refine ⟨_, rfl, rfl, _, rfl, ?_⟩
        rw [dec_nat]
        by_cases c1 : u = q0
        · rw [decide_eq_true c1]
          refine iteF ?_
          subst c1
          have hT1' : Tells fA (setd t1 (p0, d0) u) (pre ++ [(p0, d0, u)]) := hT1.snoc (w := (p0, d0, u)) fun v hv => by
            have : look t1 (p0, d0) = some v := hv
            rw [this] at eu
            exact eu.symm
          refine ⟨_, rfl, ih, rfl, .inr ⟨_, .inl gI5⟩, _, rfl, _, rfl, (by show 2 ≤ sizeLine; decide), fun k2 hk2 => ?_⟩
          have sk2 := same_new hk2 (o := .tup [.int u, .str (lS ⟨d0, false⟩)])
          have tl2 : (tabT t2).length < sizeLine := by rw [tab_len]; exact sz1M (by have := hT2.few; omega)
          refine ⟨_, rfl, t2, (u, d0), p0, k2, sk2 _ _ gI5, rfl, upd_same, tl2, rfl, fun u2 H6 eu2 hd6 up6 => ?_⟩
          have s6 := same_upto (s5.trans sk2) up6 (by simp [hih1])
          have hli : l ≠ ih := ne_of gl4 gI4 (by intro z; cases z)
          have gl6 : H6 l = some (.lst vs2) := up6 _ _ (sk2 _ _ gl5) (by simp; exact hli)
          have gA6 : H6 ah = some (.dT (tabT (setd t1 (p0, d0) u))) := up6 _ _ (sk2 _ _ hd5) (by simp; exact hai)
          have k6 : KeepT H5 H6 := (KeepT.of sk2).trans (keep_upto up6 (by
            intro b hb
            rw [List.mem_singleton.mp hb, sk2 _ _ gI5]
            exact True.intro))
          refine ⟨_, rfl, rfl, _, rfl, ?_⟩
          rw [dec_nat]
          by_cases c2 : u2 = p0
          · rw [decide_eq_true c2]
            refine iteF ?_
            subst c2
            have hT2' : Tells fI (setd t2 (u, d0) u2) (pre ++ [(u2, d0, u)]) := hT2.snoc (w := (u2, d0, u)) fun v hv => by
              have : look t2 (u, d0) = some v := hv
              rw [this] at eu2
              exact eu2.symm
            exact ⟨_, _, _, _, _, rfl, s6, gl6, dpAll_keep (k5.trans k6) hD4 (flat_ways _), gA6, hd6, hT1', hT2'⟩
          · rw [decide_eq_false c2]
            refine iteT ?_
            have hl2 : look t2 (u, d0) = some u2 := by
              cases e2 : look t2 (u, d0) with
              | none => rw [e2] at eu2; exact absurd eu2 c2
              | some z => rw [e2] at eu2; rw [eu2]; rfl
            rw [setd_some hl2] at hd6
            refine ⟨_, rfl, _, rfl, _, rfl, (by show 2 ≤ sizeLine; decide), fun k3 hk3 => ?_⟩
            have sk3 := same_new hk3 (o := .tup [.int u, .str (lS ⟨d0, false⟩)])
            have h9 := DGet.t (k := keyT (u, d0)) (sk3 _ _ hd6) upd_same
            rw [valV_tab, hl2] at h9
            refine ⟨ih, _, rfl, h9, _, rfl, (by show 2 ≤ sizeLine; decide), fun r hr2 => ?_⟩
            · have s7 := (s6.trans sk3).trans (same_new hr2 (o := .lst [.int (u2 : Nat), .int (p0 : Nat)]))
              refine q2 r _ u2 p0 ?_ (hP1.same s7) (u1.trans (Upto.of s7)) upd_same ⟨c2, u, ⟨d0, true⟩, ?_, by simpa [St] using hwW⟩
              · exact hP1.free u1 ((s6.trans sk3).free hr2)
              · obtain ⟨⟨x1, x2, x3⟩, hz, ez⟩ := hT2.from_ _ _ hl2
                simp only [fI, Prod.mk.injEq] at ez
                obtain ⟨⟨e1, e2⟩, e3⟩ := ez
                subst e1; subst e2; subst e3
                simpa [St] using hpW _ hz
        · rw [decide_eq_false c1]
          refine iteT ?_
          have hl1 : look t1 (p0, d0) = some u := by
            cases e2 : look t1 (p0, d0) with
            | none => rw [e2] at eu; exact absurd eu c1
            | some z => rw [e2] at eu; rw [eu]; rfl
          rw [setd_some hl1] at hd5
          refine ⟨_, rfl, _, rfl, _, rfl, (by show 2 ≤ sizeLine; decide), fun k3 hk3 => ?_⟩
          have sk3 := same_new hk3 (o := .tup [.int p0, .str (lS ⟨d0, false⟩)])
          have h9 := DGet.t (k := keyT (p0, d0)) (sk3 _ _ hd5) upd_same
          rw [valV_tab, hl1] at h9
          refine ⟨ah, _, rfl, h9, _, rfl, (by show 2 ≤ sizeLine; decide), fun r hr2 => ?_⟩
          · have s7 := (s5.trans sk3).trans (same_new hr2 (o := .lst [.int (u : Nat), .int (q0 : Nat)]))
            refine q2 r _ u q0 ?_ (hP1.same s7) (u1.trans (Upto.of s7)) upd_same ⟨c1, p0, ⟨d0, false⟩, ?_, by simpa [St] using hwW⟩
            · exact hP1.free u1 ((s5.trans sk3).free hr2)
            · obtain ⟨⟨x1, x2, x3⟩, hz, ez⟩ := hT1.from_ _ _ hl1
              simp only [fA, Prod.mk.injEq] at ez
              obtain ⟨⟨e1, e2⟩, e3⟩ := ez
              subst e1; subst e2; subst e3
              simpa [St] using hpW _ hz
      · rintro σ H' ⟨v5, v6, v7, t1, t2, rfl, s4, gl4, hD4, gA4, gI4, hT1, hT2⟩
        exact q1 H' (hP1.same s4) (u1.trans (Upto.of s4)) (det_tells hT1 hT2 hmem)
end
end Rb
/-! The law's own folding. -/
namespace Rb
set_option linter.all false
set_option maxRecDepth 100000
set_option maxHeartbeats 4000000
open PySem PySem.Spec PyProof.Rows L2
section
variable {P : Program} {w : World} {K : PySem.W.Frag} {mg : Str → Option Value} {base : Heap}
def spLFold (K : PySem.W.Frag) : Sp := fun vs H Q _ => ∃ (a g b : Addr) (W : List Way) (N : Nat) (ls : List Lt) (rows : List Row) (f : Nat → Row), vs = [.ref a, .ref b] ∧ PoolAt H a g ∧ WaysAt K H b W ∧ b ∉ [a, g] ∧ W.length ≤ 76 ∧ N ≤ 4000 ∧
  (∀ w ∈ W, w.1 < N ∧ w.2.2 < N) ∧ Fo ls rows f W ∧
  ∀ p H' V, H p = none → PoolAt H' a g → Upto [a, g] H H' → WaysAt K H' p V → V.length ≤ W.length → Det V → V.Nodup → Fo ls rows f V → (∀ w ∈ V, w.1 < N ∧ w.2.2 < N) → (∀ m n, Fx m n N W → Fx m n N V) → Q (.ref p) H'
theorem ok__law_folded (T : Top K mg) : FnOk P w K mg base CX0 3 T.d__law_folded.f T.d__law_folded.d ["_law_pool_here", "_law_ways"] (spLFold K) := by
  refine T.d__law_folded.F.ok sc__law_folded (fun vs H Q E h => ?_) (fun cdv A outer s H vs Q E hr h => ?_)
  · obtain ⟨a, g, b, W, N, ls, rows, f, rfl, _⟩ := h
    rfl
  · obtain ⟨a, g, b, W, N, ls, rows, f, rfl, hP, ⟨vs, hv, hD⟩, bn, hlen, hN, hlt, hF, q⟩ := h
    have hu := hu_of hr
    refine ⟨_,
      (pss_cons (ps_set (i := 1) sc__law_folded.nd rfl (Or.inl rfl) (pe_sortSet (K := K) rfl rfl hr.units (by rfl) T.z_sorted (by rfl) T.z_set (pv 1)))
      (pss_cons (ps_for PassesOwn.never rfl (pi_range1 (by rfl) T.z_range (pa_cons pe_int pa_nil)) (pg_name (i := 2) sc__law_folded.nd rfl (Or.inl rfl))
      (pss_cons (ps_set (i := 3) sc__law_folded.nd rfl (Or.inl rfl) (pe_call (ok__law_clash T) (hr.mono (by decide)) (by rfl) T.d__law_clash.g T.d__law_clash.F.kp T.d__law_clash.b .nil pass0 (pa_cons (pv 0) (pa_cons (pv 1) pa_nil))))
      (pss_cons (ps_if (pt_cmpR op_isN (pv 3) pe_non (nomark _))
      (pss_one (ps_ret (pv 1)))
      pss_nil)
      (pss_cons (ps_set (i := 4) sc__law_folded.nd rfl (Or.inl rfl) (pe_callB (call_min2 rfl) (by rfl) T.z_min (by decide +kernel) (pa_cons (pe_ix ix_list (pv 3) pe_int (fun _ _ => rfl)) (pa_cons (pe_ix ix_list (pv 3) pe_int (fun _ _ => rfl)) pa_nil))))
      (pss_cons (ps_set (i := 5) sc__law_folded.nd rfl (Or.inl rfl) (pe_callB (call_max2 rfl) (by rfl) T.z_max (by decide +kernel) (pa_cons (pe_ix ix_list (pv 3) pe_int (fun _ _ => rfl)) (pa_cons (pe_ix ix_list (pv 3) pe_int (fun _ _ => rfl)) pa_nil))))
      (pss_cons (ps_set (i := 6) sc__law_folded.nd rfl (Or.inr rfl) (pe_disp (pps_cons (pv 5) (pv 4) pps_nil) (by rfl) (by rfl) (fun z => by cases z) (by decide)))
      (pss_one (ps_set (i := 1) sc__law_folded.nd rfl (Or.inl rfl) (pe_sortSet (K := K) rfl rfl hr.units (by rfl) T.z_sorted (by rfl) T.z_set (pe_lc (own := [("_law_p", 7), ("_law_deed", 8), ("_law_q", 9)]) (g := (gTup K 3 (gCons (gName 7) (gCons (gName 8) (gCons (gName 9) gNil))))) (tt := tYes) rfl sc__law_folded.nd (pi_list (pv 1)) (blkOk_by (N := N__law_folded) (sc := defScope s__law_folded) (by decide +kernel)) (fun _ _ _ _ _ => (pg_tup (by rfl) (pgs_cons (pg_name (i := 7) sc__law_folded.nd rfl (Or.inl rfl)) (pgs_cons (pg_name (i := 8) sc__law_folded.nd rfl (Or.inl rfl)) (pgs_cons (pg_name (i := 9) sc__law_folded.nd rfl (Or.inl rfl)) pgs_nil))))) (fun _ _ _ _ _ => pts_nil) (fun _ _ _ _ _ => (pe_tup (pa_cons (pe_dget2 hu (pv 6) (pv 7) (pv 7) ⟨rfl, rfl, rfl, rfl⟩) (pa_cons (pv 8) (pa_cons (pe_dget2 hu (pv 6) (pv 9) (pv 9) ⟨rfl, rfl, rfl, rfl⟩) pa_nil)))))))))))))))
      (pss_one (ps_ret (pv 1)))))
      , ?_⟩
    refine ⟨_, rfl, b, vs, W, rfl, SqL.of hv, hD, hlen, fun p vs' us hp hS hD' => ?_⟩
    have shorter : ∀ {A B : List Way}, WSet A B → A.length ≤ B.length := fun h => h.nd.length_le_of_subset fun x hx => (h.mem x).mp hx
    have s1 := same_new hp (o := .lst vs')
    refine ⟨5000, rfl, by decide, by decide, ?_⟩
    refine for_range (lo := 0) (n := 5000) (fun i σ H' => ∃ pw U v2 v3 v4 v5 v6, σ = [some (.ref a), some (.ref pw), v2, v3, v4, v5, v6, none, none, none] ∧ H pw = none ∧ PoolAt H' a g ∧ Upto [a, g] H H' ∧ WaysAt K H' pw U ∧ U.length ≤ W.length ∧ U.Nodup ∧
        (∀ w ∈ U, w.1 < N ∧ w.2.2 < N) ∧ Fo ls rows f U ∧ placesIn N U + i ≤ N ∧ ∀ m n, Fx m n N W → Fx m n N U) ⟨p, us, none, none, none, none, none, rfl, hp, hP.same s1, Upto.of s1, ⟨vs', upd_same, dpAll_same s1 hD'⟩, shorter hS, hS.nd, fun w hw => hlt w ((hS.mem w).mp hw), hF.same hS.mem, places_le N us, fun m n h => h.same hS.mem (shorter hS)⟩ ?_ ?_
    · rintro i σ H1 hi ⟨pw, U, v2, v3, v4, v5, v6, rfl, hpw, hP1, u1, hW1, hl1, hn1, hb1, hF1, hpl, hFx⟩
      have pn : pw ∉ [a, g] := hP.out hpw
      refine ⟨_, rfl, _, rfl, a, g, pw, U, rfl, hP1, hW1, pn, by omega, fun H2 hP2 u2 hDet => ?_, fun r H2 x y hr2 hP2 u2 gr hC => ?_⟩
      · refine ⟨_, rfl, rfl, _, rfl, ?_⟩
        refine iteT ?_
        have k2 : KeepT H1 H2 := keep_upto u2 hP1.mut
        exact ⟨_, rfl, q pw H2 U hpw hP2 (u1.trans u2) (hW1.upto u2 k2 pn) hl1 hDet hn1 hF1 hb1 hFx⟩
      · refine ⟨_, rfl, rfl, _, rfl, ?_⟩
        refine iteF ?_
        have g0 : atI [V.int (x : Nat), V.int (y : Nat)] 0 = some (.int x) := rfl
        have g1 : atI [V.int (x : Nat), V.int (y : Nat)] 1 = some (.int y) := rfl
        have gsq : SqL K H2 r [.int x, .int y] := SqL.of gr
        have emn : (if (y : Int) < (x : Int) then (y : Int) else (x : Int)) = ((min x y : Nat) : Int) := by
          split <;> omega
        have emx : (if (y : Int) > (x : Int) then (y : Int) else (x : Int)) = ((max x y : Nat) : Int) := by
          split <;> omega
        refine ⟨_, rfl, r, _, _, _, rfl, rfl, gsq, g0, _, rfl, r, _, _, _, rfl, rfl, gsq, g1, _, _, rfl, ?_⟩
        refine ⟨_, rfl, r, _, _, _, rfl, rfl, gsq, g0, _, rfl, r, _, _, _, rfl, rfl, gsq, g1, _, _, rfl, ?_⟩
        rw [emn, emx]
        intro nb hnb
        refine ⟨_, rfl, _, rfl, upd_same, [(.inl ((max x y : Nat) : Int), .int (min x y : Nat))], rfl, by simp, ?_⟩
        have ef : mergeK [] [((.inl ((max x y : Nat) : Int) : L2.Key), V.int (min x y : Nat))] = [(.inl ((max x y : Nat) : Int), .int (min x y : Nat))] := rfl
        rw [ef, upd_upd]
        have s3 := same_new hnb (o := .dK [(.inl ((max x y : Nat) : Int), .int (min x y : Nat))])
        have k2 : KeepT H1 H2 := keep_upto u2 hP1.mut
        obtain ⟨ws, hw, hDw⟩ := (hW1.upto u2 k2 pn).same s3
        have gnb : (upd H2 nb (.dK [(.inl ((max x y : Nat) : Int), .int (min x y : Nat))])) nb = some (.dK [(.inl ((max x y : Nat) : Int), .int (min x y : Nat))]) := upd_same
        have hP3 := hP2.same s3
        have u3 := (u1.trans u2).trans (Upto.of s3 (S := [a, g]))
        generalize upd H2 nb (.dK [(.inl ((max x y : Nat) : Int), .int (min x y : Nat))]) = H3 at *
        have look : ∀ z : Nat, (valV [((.inl ((max x y : Nat) : Int) : L2.Key), V.int (min x y : Nat))] (.inl (z : Int))).getD (.int z) = .int (mergeR x y z : Nat) := by
          intro z
          unfold mergeR
          by_cases e : z = max x y
          · subst e
            rw [valV_pos rfl, if_pos rfl]
            rfl
          · rw [valV_neg (fun h => e (by have := Sum.inl.inj h; omega)), if_neg e]
            rfl
        refine ⟨_, rfl, pw, rfl, ⟨_, SqL.of hw⟩, fun D hDn => ?_⟩
        have hwl : ws.length = U.length := by rw [dp_len hDw, List.length_map]
        refine lc_dl (K := K) (xs := ws) (ds := U) hwl (fun pre H' => ∃ acc, Same H3 H' ∧ H' D = some (.lst acc) ∧ acc.length ≤ pre.length ∧ DpAll K H' acc ((pre.map (imgW (mergeR x y))).map encW)) ⟨[], same_new hDn, upd_same, by simp, .nil⟩ ?_ ?_ ?_
        · rintro pre H' ⟨_, s5, _⟩
          exact SqL.of (s5 _ _ hw)
        · rintro pre w post z H' e hx ⟨acc, s5, hacc, hal, had⟩
          obtain ⟨t, rfl, ht⟩ := way_at (dpAll_same s5 hDw) e hx
          obtain ⟨p0, d0, q0⟩ := w
          simp only at ht
          have gnb5 := s5 _ _ gnb
          refine ⟨t, _, rfl, ht, rfl, _, _, rfl, _, _, rfl, _, _, rfl, rfl, ?_⟩
          refine ⟨rfl, yes_if ?_⟩
          have hpre : pre.length < 1000 := by
            have := congrArg List.length e
            simp at this
            omega
          refine ⟨_, rfl, nb, rfl, .inl ⟨_, .inl gnb5⟩, _, rfl, _, rfl, _, DGet.k (k := .inl (p0 : Int)) gnb5, _, rfl, _, rfl, nb, rfl, .inl ⟨_, .inl gnb5⟩, _, rfl, _, rfl, _, DGet.k (k := .inl (q0 : Int)) gnb5, (by show 3 ≤ sizeLine; decide), fun k hk => ?_⟩
          rw [look p0, look q0]
          have hkD : D ≠ k := ne_of_none hacc hk
          have hacc2 : (upd H' k (.tup [.int (mergeR x y p0 : Nat), .str (lS ⟨d0, false⟩), .int (mergeR x y q0 : Nat)])) D = some (.lst acc) := by rw [upd_ne hkD]; exact hacc
          refine ⟨acc, hacc2, sz1M (by omega), acc ++ [.ref k], same_mut (s5.trans (same_new hk)) hDn, upd_same, by simp; omega, ?_⟩
          rw [List.map_append, List.map_append]
          have kk : KeepT (upd H' k (.tup [.int (mergeR x y p0 : Nat), .str (lS ⟨d0, false⟩), .int (mergeR x y q0 : Nat)])) (upd (upd H' k (.tup [.int (mergeR x y p0 : Nat), .str (lS ⟨d0, false⟩), .int (mergeR x y q0 : Nat)])) D (.lst (acc ++ [.ref k]))) := KeepT.put (.inr (by rw [hacc2]; exact True.intro))
          exact dp_snoc (dp_of3 (kk.sqT (SqT.of upd_same))) (dpAll_keep kk (dpAll_same (same_new hk) had) (flat_ways _))
        · rintro H' ⟨acc, s5, hacc, hal, had⟩
          refine ⟨D, acc, U.map (imgW (mergeR x y)), rfl, SqL.of hacc, had, by rw [List.length_map]; omega, fun p2 vs2 us2 hp2 hS2 hD2 => ?_⟩
          have s6 := s5.trans (same_new hp2 (o := .lst vs2))
          have hI : Img (mergeR x y) U us2 := fun w => by
            rw [hS2.mem, List.mem_map]
          have hl2 := shorter hS2
          rw [List.length_map] at hl2
          have hp2H : H p2 = none := hP3.free u3 (s5.free hp2)
          refine ⟨p2, us2, _, _, _, _, _, rfl, hp2H, hP3.same s6, u3.trans (Upto.of s6), ⟨vs2, upd_same, dpAll_same (same_new hp2) hD2⟩, by omega, hS2.nd, merge_lt hC hI hb1, hF1.merge hC hI, ?_, fun m n h => (hFx m n h).merge hC hI hn1 hS2.nd⟩
          have := merge_fewer hC hI hb1
          omega
    · rintro σ H1 ⟨pw, U, v2, v3, v4, v5, v6, rfl, hpw, hP1, u1, hW1, hl1, hn1, hb1, hF1, hpl, hFx⟩
      exfalso
      omega
end
end Rb
/-! The law's own trimming and numbering; its web. -/
namespace Rb
set_option linter.all false
set_option maxRecDepth 100000
set_option maxHeartbeats 4000000
open PySem PySem.Spec PyProof.Rows L2
section
variable {P : Program} {w : World} {K : PySem.W.Frag} {mg : Str → Option Value} {base : Heap}
theorem looped_ends {W : List Way} (D : Det W) (L : Looped W 0) {w : Way} (hw : w ∈ W) : 1 < (if 0 = w.1 then 2 else 0) + endsOf W w.1 ∧ 1 < (if 0 = w.2.2 then 2 else 0) + endsOf W w.2.2 := by
  have h := looped_no_tail D L w hw
  unfold isTail at h
  have h2 := of_decide_eq_false h
  constructor
  · by_cases e : 0 = w.1
    · rw [if_pos e]; omega
    · rw [if_neg e]
      refine Classical.byContradiction fun z => h2 (.inl ⟨fun y => e y.symm, by omega⟩)
  · by_cases e : 0 = w.2.2
    · rw [if_pos e]; omega
    · rw [if_neg e]
      refine Classical.byContradiction fun z => h2 (.inr ⟨fun y => e y.symm, by omega⟩)
def spLTrim (K : PySem.W.Frag) : Sp := fun vs H Q _ => ∃ (b : Addr) (W : List Way), vs = [.ref b] ∧ WaysAt K H b W ∧ W.length ≤ 1000 ∧ Det W ∧ Looped W 0 ∧ ∀ H', Same H H' → Q (.ref b) H'
theorem ok__law_trimmed (T : Top K mg) : FnOk P w K mg base CX0 1 T.d__law_trimmed.f T.d__law_trimmed.d ["_law_ways"] (spLTrim K) := by
  refine T.d__law_trimmed.F.ok sc__law_trimmed (fun vs H Q E h => ?_) (fun cdv A outer s H vs Q E hr h => ?_)
  · obtain ⟨b, W, rfl, _⟩ := h
    rfl
  · obtain ⟨b, W, rfl, ⟨vs, hv, hD⟩, hlen, hDet, hL, q⟩ := h
    have hu := hu_of hr
    refine ⟨_,
      (pss_cons (ps_for PassesOwn.never rfl (pi_range1 (by rfl) T.z_range (pa_cons pe_int pa_nil)) (pg_name (i := 1) sc__law_trimmed.nd rfl (Or.inl rfl))
      (pss_cons (ps_set (i := 2) sc__law_trimmed.nd rfl (Or.inr rfl) (pe_disp (pps_cons pe_int pe_int pps_nil) (by rfl) (by rfl) (fun z => by cases z) (by decide)))
      (pss_cons (ps_for PassesOwn.never rfl (pi_list (pv 0)) (pg_tup (by rfl) (pgs_cons (pg_name (i := 3) sc__law_trimmed.nd rfl (Or.inl rfl)) (pgs_cons (pg_name (i := 4) sc__law_trimmed.nd rfl (Or.inl rfl)) (pgs_cons (pg_name (i := 5) sc__law_trimmed.nd rfl (Or.inl rfl)) pgs_nil))))
      (pss_cons (ps_dput hu (pv 2) (pv 3) (pe_op op_add (pe_dget2 hu (pv 2) (pv 3) pe_int ⟨rfl, rfl, rfl, rfl⟩) pe_int) rfl)
      (pss_one (ps_dput hu (pv 2) (pv 5) (pe_op op_add (pe_dget2 hu (pv 2) (pv 5) pe_int ⟨rfl, rfl, rfl, rfl⟩) pe_int) rfl))))
      (pss_cons (ps_setLc (i := 6) (own := [("_law_path", 7)]) (g := (gName 7)) rfl sc__law_trimmed.nd rfl rfl (sw_true rfl rfl rfl (by decide +kernel)) (pi_list (pv 0)) (blkOk_by (N := N__law_trimmed) (sc := defScope s__law_trimmed) (by decide +kernel)) (fun _ _ _ _ _ => (pg_name (i := 7) sc__law_trimmed.nd rfl (Or.inl rfl))) (fun _ _ _ _ _ => (pts_one (PW.pt (pw_and (pt_cmpR op_gt (pe_dget hu (pv 2) (pe_ix (ix_tupK (K := K) rfl) (pv 7) pe_int (fun _ _ => rfl)) (fun _ _ => rfl)) pe_int (nomark _)) (pw_and1 (pt_cmpR op_gt (pe_dget hu (pv 2) (pe_ix (ix_tupK (K := K) rfl) (pv 7) pe_int (fun _ _ => rfl)) (fun _ _ => rfl)) pe_int (nomark _))))))) (fun _ _ _ _ _ => (pv 7)))
      (pss_cons (ps_if (pt_cmpR op_eq (pe_callB call_len_seq (by rfl) T.z_len (by decide +kernel) (pa_cons (pv 6) pa_nil)) (pe_callB call_len_seq (by rfl) T.z_len (by decide +kernel) (pa_cons (pv 0) pa_nil)) (nomark _))
      (pss_one (ps_ret (pv 0)))
      pss_nil)
      (pss_one (ps_set (i := 0) sc__law_trimmed.nd rfl (Or.inl rfl) (pv 6))))))))
      (pss_one (ps_ret (pv 0))))
      , ?_⟩
    have hvl : vs.length = W.length := by rw [dp_len hD, List.length_map]
    refine ⟨5000, rfl, by decide, by decide, ?_⟩
    refine for_range (lo := 0) (n := 5000) (fun i σ H' => i = 0 ∧ H' = H ∧ σ = [some (.ref b), none, none, none, none, none, none, none]) ⟨rfl, rfl, rfl⟩ ?_ ?_
    · rintro i σ H1 hi ⟨rfl, rfl, rfl⟩
      intro ed hed
      refine ⟨upd_same, [(.inl (0 : Int), .int 2)], rfl, by simp, ?_⟩
      have ef : mergeK [] [((.inl (0 : Int) : L2.Key), V.int 2)] = [(.inl (0 : Int), .int 2)] := rfl
      rw [ef, upd_upd]
      have s1 := same_new hed (o := .dK [(.inl (0 : Int), .int 2)])
      have ged : (upd H1 ed (.dK [(.inl (0 : Int), .int 2)])) ed = some (.dK [(.inl (0 : Int), .int 2)]) := upd_same
      have hE0 : EndsK [((.inl (0 : Int) : L2.Key), V.int 2)] (fun p => (if 0 = p then 2 else 0) + endsOf [] p) := by
        intro p
        by_cases e : 0 = p
        · subst e
          rfl
        · rw [valV_neg (fun z => e (by have := Sum.inl.inj z; omega))]
          simp [e, endsOf, valV]
      generalize upd H1 ed (.dK [(.inl (0 : Int), .int 2)]) = H2 at *
      refine ⟨_, rfl, b, rfl, ⟨_, SqL.of (s1 _ _ hv)⟩, for_dl (K := K) (xs := vs) (ds := W) hvl (fun pre σ H' => ∃ v3 v4 v5 kvs, σ = [some (.ref b), some (.int (0 + ((0 : Nat) : Int))), some (.ref ed), v3, v4, v5, none, none] ∧ Same H1 H' ∧ H' ed = some (.dK kvs) ∧ EndsK kvs (fun p => (if 0 = p then 2 else 0) + endsOf pre p) ∧ kvs.length ≤ 1 + 2 * pre.length)
          ⟨none, none, none, _, rfl, s1, ged, hE0, by simp⟩ ?_ ?_ ?_⟩
      · rintro pre σ H' ⟨_, _, _, _, _, s3, _⟩
        exact SqL.of (s3 _ _ hv)
      · rintro pre w post x σ H' e hx ⟨v4, v5, v6, kvs, rfl, s3, hk, hE, hkl⟩
        obtain ⟨t, rfl, ht⟩ := way_at (dpAll_same s3 hD) e hx
        have hpre : pre.length < 1000 := by
          have := congrArg List.length e
          simp at this
          omega
        obtain ⟨p0, d0, q0⟩ := w
        simp only at ht
        refine ⟨t, _, rfl, ht, rfl, _, _, rfl, _, _, rfl, _, _, rfl, rfl, ?_⟩
        have hE1 := hE.put p0
        have l1 := length_putK kvs (.inl (p0 : Int)) (V.int (((((if 0 = p0 then 2 else 0) + endsOf pre p0 : Nat)) : Int) + 1))
        refine ⟨_, rfl, ed, rfl, .inl ⟨_, .inl hk⟩, _, rfl, _, DGet.k (k := .inl (p0 : Int)) hk, (((if 0 = p0 then 2 else 0) + endsOf pre p0 : Nat) : Int), 1, hE.get p0, rfl, _, rfl, _, rfl, ed, _, rfl, DPut.k (k := .inl (p0 : Int)) hk (sz1M (by omega)), ?_⟩
        have hE2 := hE1.put q0
        refine ⟨_, rfl, ed, rfl, .inl ⟨_, .inl upd_same⟩, _, rfl, _, DGet.k (k := .inl (q0 : Int)) upd_same, ((((if 0 = q0 then 2 else 0) + endsOf pre q0) + if p0 = q0 then 1 else 0 : Nat) : Int), 1, hE1.get q0, rfl, _, rfl, _, rfl, ed, _, rfl, DPut.k (k := .inl (q0 : Int)) upd_same (sz1M (Nat.le_trans (length_putK _ _ _) (by omega))), ?_⟩
        have l2 := length_putK (putK kvs (.inl (p0 : Int)) (V.int (((((if 0 = p0 then 2 else 0) + endsOf pre p0 : Nat)) : Int) + 1))) (.inl (q0 : Int)) (V.int (((((if 0 = q0 then 2 else 0) + endsOf pre q0) + if p0 = q0 then 1 else 0 : Nat) : Int) + 1))
        refine ⟨_, _, _, _, rfl, same_mut (same_mut s3 hed) hed, upd_same, ?_, by rw [List.length_append]; simp only [List.length_cons, List.length_nil]; omega⟩
        intro r
        have := hE2 r
        simp only [] at this
        rw [this]
        simp only [ends_snoc]
        have ee : (if 0 = r then 2 else 0) + endsOf pre r + (if p0 = r then 1 else 0) + (if q0 = r then 1 else 0) = (if 0 = r then 2 else 0) + (endsOf pre r + (if p0 = r then 1 else 0) + (if q0 = r then 1 else 0)) := by omega
        rw [ee]
      · rintro σ H3 ⟨v3, v4, v5, kvs, rfl, s3, hk, hE, hkl⟩
        have hv3 := s3 _ _ hv
        refine ⟨_, rfl, b, rfl, ⟨_, SqL.of hv3⟩, fun D hDn => ?_⟩
        refine lc_dl (K := K) (xs := vs) (ds := W) hvl (fun pre H' => ∃ acc, Same H3 H' ∧ H' D = some (.lst acc) ∧ acc.length = pre.length) ⟨[], same_new hDn, upd_same, rfl⟩ ?_ ?_ ?_
        · rintro pre H' ⟨_, s4, _⟩
          exact SqL.of (s4 _ _ hv3)
        · rintro pre w post x H' e hx ⟨acc, s4, hacc, hal⟩
          obtain ⟨t, rfl, ht⟩ := way_at (dpAll_same (s3.trans s4) hD) e hx
          have hwW : w ∈ W := by rw [e]; simp
          have hpre : pre.length < 1000 := by
            have := congrArg List.length e
            simp at this
            omega
          obtain ⟨g1, g2⟩ := looped_ends hDet hL hwW
          obtain ⟨p0, d0, q0⟩ := w
          simp only at ht g1 g2
          have e1 := hE p0
          have e2 := hE q0
          simp only [] at e1 e2
          rw [if_neg (by omega)] at e1 e2
          refine ⟨rfl, ?_⟩
          have a0 : atI [V.int (p0 : Nat), V.str (lS ⟨d0, false⟩), V.int (q0 : Nat)] 0 = some (.int p0) := rfl
          have a2 : atI [V.int (p0 : Nat), V.str (lS ⟨d0, false⟩), V.int (q0 : Nat)] 2 = some (.int q0) := rfl
          have hk4 := s4 _ _ hk
          refine ⟨_, rfl, _, rfl, t, _, _, _, rfl, rfl, ht, a0, ed, _, rfl, .inl ⟨kvs, .inl (p0 : Nat), .inl hk4, rfl, e1.symm⟩, _, _, rfl, rfl, _, rfl, ?_⟩
          rw [decide_eq_true (show (1 : Int) < (((if 0 = p0 then 2 else 0) + endsOf W p0 : Nat) : Int) by omega)]
          refine iteT ?_
          refine ⟨_, rfl, _, rfl, t, _, _, _, rfl, rfl, ht, a2, ed, _, rfl, .inl ⟨kvs, .inl (q0 : Nat), .inl hk4, rfl, e2.symm⟩, _, _, rfl, rfl, _, rfl, ?_⟩
          rw [decide_eq_true (show (1 : Int) < (((if 0 = q0 then 2 else 0) + endsOf W q0 : Nat) : Int) by omega)]
          refine iteT ?_
          refine ⟨_, rfl, acc, hacc, sz1M (by omega), acc ++ [.ref t], same_mut s4 hDn, upd_same, by simp [hal]⟩
        · rintro H' ⟨acc, s4, hacc, hal⟩
          refine ⟨_, rfl, D, acc, rfl, .inl (SqL.of hacc), _, rfl, b, vs, rfl, .inl (SqL.of (s4 _ _ hv3)), rfl, _, rfl, ?_⟩
          rw [dec_nat, hal, hvl, decide_eq_true rfl]
          refine iteT ?_
          exact ⟨_, rfl, q H' (s3.trans s4)⟩
    · rintro i σ ⟨h, _⟩
      omega
/-- how many ways lie within the places of ws -/
def waysIn (W : List Way) (ws : List Nat) : Nat := (W.filter fun w => decide (w.1 ∈ ws ∧ w.2.2 ∈ ws)).length
theorem waysIn_le (W : List Way) (ws : List Nat) : waysIn W ws ≤ W.length := List.length_filter_le _ _
theorem waysIn_more {W : List Way} {ws : List Nat} {p g : Nat} {x : Lt} (h : St W p x g) (hp : p ∈ ws) (hg : ¬ g ∈ ws) : waysIn W ws + 1 ≤ waysIn W (ws ++ [g]) := by
  unfold waysIn
  refine filter_len_lt (fun w _ hw => ?_) ?_
  · have := of_decide_eq_true hw
    exact decide_eq_true ⟨List.mem_append_left _ this.1, List.mem_append_left _ this.2⟩
  · unfold St at h
    split at h
    · exact ⟨_, h, decide_eq_true ⟨by simp, by simp [hp]⟩, decide_eq_false fun z => hg z.1⟩
    · exact ⟨_, h, decide_eq_true ⟨by simp [hp], by simp⟩, decide_eq_false fun z => hg z.2⟩
def spLNum (K : PySem.W.Frag) : Sp := fun vs H Q _ => ∃ (ds : List (Fin 26)) (a : Nat) (W : List Way), vs = [.str (dS ds), .ref a] ∧ WaysAt K H a W ∧ W.length ≤ 1000 ∧ ds.length ≤ 26 ∧ Det W ∧ (∀ p x q, St W p x q → x ∈ lets ds) ∧
  ∀ p t R vs' H', H p = none → Same H H' → H' p = some (.lst [.int (R.length : Nat), .ref t]) → H' t = some (.tup vs') → DpAll K H' vs' ((wsort (numb R W)).map encW) → Bfs (stepsD W) (lets ds) 0 [0] R → R.length ≤ W.length + 1 → Q (.ref p) H'
theorem ok__law_numbered (T : Top K mg) : FnOk P w K mg base CX0 2 T.d__law_numbered.f T.d__law_numbered.d ["_law_deeds_here", "_law_ways"] (spLNum K) := by
  refine T.d__law_numbered.F.ok sc__law_numbered (fun vs H Q E h => ?_) (fun cdv A outer s H vs Q E hr h => ?_)
  · obtain ⟨ds, a, W, rfl, _⟩ := h
    rfl
  · obtain ⟨ds, a, W, rfl, hW, hlen, hds, hDet, hL, q⟩ := h
    have hu := hu_of hr
    refine ⟨_,
      (pss_cons (ps_set (i := 2) sc__law_numbered.nd rfl (Or.inl rfl) (pe_call (ok__law_steps T) (hr.mono (by decide)) (by rfl) T.d__law_steps.g T.d__law_steps.F.kp T.d__law_steps.b .nil pass0 (pa_cons (pv 1) pa_nil)))
      (pss_cons (ps_set (i := 3) sc__law_numbered.nd rfl (Or.inr rfl) (pe_disp (pps_cons pe_int pe_int pps_nil) (by rfl) (by rfl) (fun z => by cases z) (by decide)))
      (pss_cons (ps_set (i := 4) sc__law_numbered.nd rfl (Or.inl rfl) (pe_lst (pa_cons pe_int pa_nil)))
      (pss_cons (ps_for PassesOwn.never rfl (pi_range1 (by rfl) T.z_range (pa_cons (pe_op op_add (pe_callB call_len_seq (by rfl) T.z_len (by decide +kernel) (pa_cons (pv 1) pa_nil)) pe_int) pa_nil)) (pg_name (i := 5) sc__law_numbered.nd rfl (Or.inl rfl))
      (pss_one (ps_if (pt_cmpR op_lt (pv 5) (pe_callB call_len_seq (by rfl) T.z_len (by decide +kernel) (pa_cons (pv 4) pa_nil)) (nomark _))
      (pss_one (ps_for PassesOwn.never rfl (pi_list (pe_call (ok__law_letters T) (hr.mono (by decide)) (by rfl) T.d__law_letters.g T.d__law_letters.F.kp T.d__law_letters.b .nil pass0 (pa_cons (pv 0) pa_nil))) (pg_name (i := 6) sc__law_numbered.nd rfl (Or.inl rfl))
      (pss_cons (ps_set (i := 7) sc__law_numbered.nd rfl (Or.inl rfl) (pe_dget1 hu (pv 2) (pe_tup (pa_cons (pe_ix ix_list (pv 4) (pv 5) (fun _ _ => rfl)) (pa_cons (pv 6) pa_nil))) ⟨rfl, rfl, rfl, rfl⟩))
      (pss_one (ps_if (PW.pt (pw_and (pt_cmpR op_notN (pv 7) pe_non (nomark _)) (pw_and1 (pt_cmp (pc_dnotin hu (pv 7) (pv 3))))))
      (pss_cons (ps_dput hu (pv 3) (pv 7) (pe_callB call_len_seq (by rfl) T.z_len (by decide +kernel) (pa_cons (pv 4) pa_nil)) rfl)
      (pss_one (ps_expr (pe_bm PySem.F.plainAttrs_list PySem.F.slot_list_append PySem.F.type_list_append mt_append (pv 4) (pa_cons (pv 7) pa_nil)))))
      pss_nil)))))
      pss_nil)))
      (pss_cons (ps_setLc (i := 8) (own := [("_law_place", 9), ("_law_deed", 10), ("_law_goal", 7)]) (g := (gTup K 3 (gCons (gName 9) (gCons (gName 10) (gCons (gName 7) gNil))))) rfl sc__law_numbered.nd rfl rfl (sw_true rfl rfl rfl (by decide +kernel)) (pi_list (pv 1)) (blkOk_by (N := N__law_numbered) (sc := defScope s__law_numbered) (by decide +kernel)) (fun _ _ _ _ _ => (pg_tup (by rfl) (pgs_cons (pg_name (i := 9) sc__law_numbered.nd rfl (Or.inl rfl)) (pgs_cons (pg_name (i := 10) sc__law_numbered.nd rfl (Or.inl rfl)) (pgs_cons (pg_name (i := 7) sc__law_numbered.nd rfl (Or.inl rfl)) pgs_nil))))) (fun _ _ _ _ _ => (pts_one (pt_cmp (pc_din hu (pv 9) (pv 3))))) (fun _ _ _ _ _ => (pe_tup (pa_cons (pe_dget hu (pv 3) (pv 9) (fun _ _ => rfl)) (pa_cons (pv 10) (pa_cons (pe_dget hu (pv 3) (pv 7) (fun _ _ => rfl)) pa_nil))))))
      (pss_one (ps_ret (pe_lst (pa_cons (pe_callB call_len_seq (by rfl) T.z_len (by decide +kernel) (pa_cons (pv 4) pa_nil)) (pa_cons (pe_callTy call_tuple_of (by rfl) T.z_tuple (by decide +kernel) (pa_cons (pe_callB (cr_sortedW hr.units) (by rfl) T.z_sorted (by decide +kernel) (pa_cons (pv 8) pa_nil)) pa_nil)) pa_nil))))))))))
      , ?_⟩
    obtain ⟨vs, hv, hD⟩ := id hW
    have hvl : vs.length = W.length := by rw [dp_len hD, List.length_map]
    refine ⟨_, rfl, a, W, rfl, ⟨vs, .inl hv, hD⟩, by omega, fun st skv H1 hst0 s1 hst hFk => ?_⟩
    intro nb hnb
    refine ⟨upd_same, [(.inl (0 : Int), .int 0)], rfl, by simp, ?_⟩
    have ef : mergeK [] [((.inl (0 : Int) : L2.Key), V.int 0)] = [(.inl (0 : Int), .int 0)] := rfl
    rw [ef, upd_upd]
    refine ⟨(by show 1 ≤ sizeLine; decide), fun wl hwl => ?_⟩
    have s2 : Same H1 (upd H1 nb (.dK [(.inl (0 : Int), .int 0)])) := same_new hnb
    have s3 := (s1.trans s2).trans (same_new hwl (o := .lst [.int 0]))
    have hnw : nb ≠ wl := ne_of_none upd_same hwl
    have hnb0 : H nb = none := s1.free hnb
    have hwl1 : H1 wl = none := s2.free hwl
    have hwl0 : H wl = none := s1.free hwl1
    have hsw : st ≠ wl := ne_of_none hst hwl1
    have hsn : st ≠ nb := ne_of_none hst hnb
    have fN : NumK [((.inl (0 : Int) : L2.Key), V.int 0)] [0] := by
      refine ⟨rfl, fun p => ?_⟩
      by_cases e : 0 = p
      · subst e
        rfl
      · rw [valV_neg (fun z => e (by have := Sum.inl.inj z; omega))]
        simp [valV]
        exact fun z => e z.symm
    have g0st : (upd (upd H1 nb (.dK [(.inl (0 : Int), .int 0)])) wl (.lst [.int 0])) st = some (.dT skv) := by
      rw [upd_ne hsw, upd_ne hsn]
      exact hst
    have g0nb : (upd (upd H1 nb (.dK [(.inl (0 : Int), .int 0)])) wl (.lst [.int 0])) nb = some (.dK [(.inl (0 : Int), .int 0)]) := by
      rw [upd_ne hnw]
      exact upd_same
    have g0wl : (upd (upd H1 nb (.dK [(.inl (0 : Int), .int 0)])) wl (.lst [.int 0])) wl = some (.lst (ivs [0])) := upd_same
    generalize upd (upd H1 nb (.dK [(.inl (0 : Int), .int 0)])) wl (.lst [.int 0]) = H2 at *
    refine ⟨_, rfl, a, _, rfl, .inl (SqL.of (s3 _ _ hv)), _, _, rfl, rfl, ((W.length + 1 : Nat) : Int), by rw [hvl]; rfl, by omega, by omega, ?_⟩
    refine for_range (lo := 0) (n := W.length + 1) (fun i σ H' => ∃ ws kvs v5 v6 v7, σ = [some (.str (dS ds)), some (.ref a), some (.ref st), some (.ref nb), some (.ref wl), v5, v6, v7, none, none, none] ∧ Same H H' ∧ H' st = some (.dT skv) ∧ H' nb = some (.dK kvs) ∧ NumK kvs ws ∧ H' wl = some (.lst (ivs ws)) ∧
        ws.Nodup ∧ ws.length ≤ 1 + waysIn W ws ∧ ∀ R, Bfs (stepsD W) (lets ds) (min i ws.length) ws R → Bfs (stepsD W) (lets ds) 0 [0] R)
      ⟨[0], _, none, none, none, rfl, s3, g0st, g0nb, fN, g0wl, by simp, by simp, fun R h => by rwa [Nat.zero_min] at h⟩ ?_ ?_
    · rintro i σ H3 hi ⟨ws, kvs, v5, v6, v7, rfl, s4, gst, gnb, gN, gwl, c1, c2, c4⟩
      have hwi := waysIn_le W ws
      have el : ((ivs ws).length : Int) = (ws.length : Nat) := by simp [ivs]
      have ei : 0 + (i : Int) = (i : Nat) := by omega
      rw [ei]
      refine ⟨_, rfl, _, rfl, wl, _, rfl, .inl (SqL.of gwl), _, _, rfl, rfl, _, rfl, ?_⟩
      show if decide ((i : Int) < ((ivs ws).length : Int)) = true then _ else _
      rw [el]
      by_cases hat : i < ws.length
      · rw [decide_eq_true (show ((i : Nat) : Int) < (ws.length : Nat) by omega)]
        refine iteT ?_
        rw [Nat.min_eq_left (by omega)] at c4
        have hp : ws[i]? = some ws[i] := List.getElem?_eq_getElem hat
        generalize ws[i] = p at hp
        have hpm : p ∈ ws := List.mem_of_getElem? hp
        refine ⟨_, rfl, ds, rfl, hds, fun lt H4 hlt s5 glt => ?_⟩
        have hltw : ∀ {b' : Addr} {o : HO}, H3 b' = some o → b' ≠ lt := fun h => ne_of_none h hlt
        refine ⟨lt, rfl, ⟨_, SqL.of glt⟩, for_dl (K := K) (xs := encL (lets ds)) (ds := lets ds) (by simp [encL]) (fun pre σ H' => ∃ kvs v6 v7, σ = [some (.str (dS ds)), some (.ref a), some (.ref st), some (.ref nb), some (.ref wl), some (.int (i : Nat)), v6, v7, none, none, none] ∧ Same H H' ∧ H' lt = some (.lst (encL (lets ds))) ∧ H' st = some (.dT skv) ∧ H' nb = some (.dK kvs) ∧ NumK kvs (rowOf (stepsD W p) pre ws) ∧ H' wl = some (.lst (ivs (rowOf (stepsD W p) pre ws))) ∧
            (rowOf (stepsD W p) pre ws).length ≤ 1 + waysIn W (rowOf (stepsD W p) pre ws))
          ⟨kvs, v6, v7, rfl, s4.trans s5, glt, s5 _ _ gst, s5 _ _ gnb, gN, s5 _ _ gwl, c2⟩ ?_ ?_ ?_⟩
        · rintro pre σ H' ⟨_, _, _, _, _, h, _⟩
          exact SqL.of h
        · rintro pre x post v σ H' e hx ⟨kv2, v6, v7, rfl, s6, g1, g2, g3, g4, g5, g6⟩
          have hvx : v = .str (lS x) := by
            unfold encL at hx
            rw [e, List.map_append, List.getElem?_append_right (by simp)] at hx
            simpa using hx.symm
          subst hvx
          obtain ⟨TT, hTT⟩ := rowOf_pre (δ := stepsD W p) (ls := pre) (Q := ws)
          have hnd2 := rowOf_nodup (δ := stepsD W p) (ls := pre) c1
          have hwi2 := waysIn_le W (rowOf (stepsD W p) pre ws)
          rw [rowOf_snoc]
          generalize hR : rowOf (stepsD W p) pre ws = R2 at *
          have hp2 : R2[i]? = some p := by rw [hTT, List.getElem?_append_left hat]; exact hp
          have a1 : atI (ivs R2) (i : Int) = some (.int p) := atI_nat (by unfold ivs; rw [List.getElem?_map, hp2]; rfl)
          refine ⟨_, rfl, st, rfl, .inr ⟨_, .inl g2⟩, _, rfl, _, rfl, wl, _, _, _, rfl, rfl, SqL.of g5, a1, _, rfl, (by show 2 ≤ sizeLine; decide), fun k hk => ?_⟩
          have sk : Same H' (upd H' k (.tup [.int p, .str (lS x)])) := same_new hk
          refine ⟨_, DGet.t (k := keyL p x) (sk _ _ g2) upd_same, ?_⟩
          rw [hFk p x]
          cases hg : stepsD W p x with
          | none =>
            refine ⟨_, rfl, rfl, _, rfl, ?_⟩
            refine iteF ?_
            exact ⟨kv2, _, _, rfl, s6.trans sk, sk _ _ g1, sk _ _ g2, sk _ _ g3, g4, sk _ _ g5, g6⟩
          | some g =>
            refine ⟨_, rfl, rfl, _, rfl, ?_⟩
            refine iteT ?_
            refine ⟨_, rfl, _, rfl, nb, _, rfl, DGet.k (k := .inl (g : Int)) (sk _ _ g3), _, rfl, ?_⟩
            simp only
            by_cases hgR : g ∈ R2
            · have e1 : (valV kv2 (.inl (g : Int))).isSome = true := by rw [g4.2 g, if_pos hgR]; rfl
              rw [e1, if_pos hgR]
              refine iteF ?_
              exact ⟨kv2, _, _, rfl, s6.trans sk, sk _ _ g1, sk _ _ g2, sk _ _ g3, g4, sk _ _ g5, g6⟩
            · have e1 : (valV kv2 (.inl (g : Int))).isSome = false := by rw [g4.2 g, if_neg hgR]; rfl
              rw [e1, if_neg hgR]
              refine iteT ?_
              have el2 : ((ivs R2).length : Int) = (R2.length : Nat) := by simp [ivs]
              refine ⟨_, rfl, wl, _, rfl, .inl (SqL.of (sk _ _ g5)), ?_⟩
              rw [el2]
              refine ⟨_, rfl, _, rfl, nb, _, rfl, DPut.k (k := .inl (g : Int)) (sk _ _ g3) (sz1M (by rw [g4.1]; omega)), ?_⟩
              have g5' : (upd (upd H' k (.tup [.int p, .str (lS x)])) nb (.dK (putK kv2 (.inl (g : Int)) (.int (R2.length : Nat))))) wl = some (.lst (ivs R2)) := by rw [upd_ne hnw.symm]; exact sk _ _ g5
              refine ⟨_, rfl, .inl ⟨rfl, _, SqL.of g5'⟩, _, rfl, wl, _, _, rfl, rfl, g5', sz1M (by simp [ivs]; omega), ?_⟩
              have ltn : lt ≠ nb := (hltw gnb).symm
              have ltw : lt ≠ wl := (hltw gwl).symm
              refine ⟨_, _, _, rfl, same_mut (same_mut (s6.trans sk) hnb0) hwl0, ?_, ?_, ?_, g4.put hgR, ?_, ?_⟩
              · rw [upd_ne ltw, upd_ne ltn]; exact sk _ _ g1
              · rw [upd_ne hsw, upd_ne hsn]; exact sk _ _ g2
              · rw [upd_ne hnw]; exact upd_same
              · rw [upd_same]; simp [ivs]
              · have := waysIn_more (stepsD_sound W hg) (List.mem_of_getElem? hp2) hgR
                rw [List.length_append]
                simp only [List.length_cons, List.length_nil]
                omega
        · rintro σ H' ⟨kv2, v6, v7, rfl, s6, g1, g2, g3, g4, g5, g6⟩
          obtain ⟨TT, hTT⟩ := rowOf_pre (δ := stepsD W p) (ls := lets ds) (Q := ws)
          refine ⟨rowOf (stepsD W p) (lets ds) ws, kv2, _, v6, v7, rfl, s6, g2, g3, g4, g5, rowOf_nodup c1, g6, fun R h => c4 R (.more hp ?_)⟩
          rw [Nat.min_eq_left (by rw [hTT, List.length_append]; omega)] at h
          exact h
      · rw [decide_eq_false (show ¬ ((i : Nat) : Int) < (ws.length : Nat) by omega)]
        refine iteF ?_
        refine ⟨ws, kvs, _, v6, v7, rfl, s4, gst, gnb, gN, gwl, c1, c2, fun R h => c4 R ?_⟩
        rw [Nat.min_eq_right (by omega)] at h ⊢
        exact h
    · rintro σ H3 ⟨ws, kvs, v5, v6, v7, rfl, s4, gst, gnb, gN, gwl, c1, c2, c4⟩
      have hwi := waysIn_le W ws
      have el : ((ivs ws).length : Int) = (ws.length : Nat) := by simp [ivs]
      have hB : Bfs (stepsD W) (lets ds) 0 [0] ws := c4 ws (.done (by omega))
      obtain ⟨e1, e2, _, e4⟩ := bfs_end hB (by simp) (by intro j p x g hj; omega)
      have hcl : Closed ws W := fun p x q hp hs => e4 p x q hp (hL _ _ _ hs) ((fits_steps hDet p x q).mpr hs)
      refine ⟨_, rfl, a, rfl, ⟨_, SqL.of (s4 _ _ hv)⟩, fun D hDn => ?_⟩
      refine lc_dl (K := K) (xs := vs) (ds := W) hvl (fun pre H' => ∃ acc, Same H3 H' ∧ H' D = some (.lst acc) ∧ acc.length ≤ pre.length ∧ DpAll K H' acc ((numb ws pre).map encW)) ⟨[], same_new hDn, upd_same, by simp, .nil⟩ ?_ ?_ ?_
      · rintro pre H' ⟨_, s5, _⟩
        exact SqL.of (s5 _ _ (s4 _ _ hv))
      · rintro pre w post x H' e hx ⟨acc, s5, hacc, hal, had⟩
        obtain ⟨t, rfl, ht⟩ := way_at (dpAll_same (s4.trans s5) hD) e hx
        have hwW : w ∈ W := by rw [e]; simp
        obtain ⟨p0, d0, q0⟩ := w
        simp only at ht
        have gnb5 := s5 _ _ gnb
        refine ⟨t, _, rfl, ht, rfl, _, _, rfl, _, _, rfl, _, _, rfl, rfl, ?_⟩
        refine ⟨rfl, ?_⟩
        refine ⟨_, rfl, _, rfl, nb, _, rfl, DGet.k (k := .inl (p0 : Int)) gnb5, _, rfl, ?_⟩
        by_cases hp0 : p0 ∈ ws
        · have e5 : (valV kvs (.inl (p0 : Int))) = some (.int (ws.idxOf p0 : Nat)) := by rw [gN.2 p0, if_pos hp0]
          have hq0 : q0 ∈ ws := hcl p0 ⟨d0, false⟩ q0 hp0 (by simpa [St] using hwW)
          have e6 : (valV kvs (.inl (q0 : Int))) = some (.int (ws.idxOf q0 : Nat)) := by rw [gN.2 q0, if_pos hq0]
          rw [e5]
          refine iteT ?_
          refine ⟨_, rfl, _, rfl, nb, _, rfl, .inl ⟨kvs, .inl (p0 : Int), .inl gnb5, rfl, e5.symm⟩, _, rfl, _, rfl, _, rfl, nb, _, rfl, .inl ⟨kvs, .inl (q0 : Int), .inl gnb5, rfl, e6.symm⟩, (by show 3 ≤ sizeLine; decide), fun k hk => ?_⟩
          have hkD : D ≠ k := ne_of_none hacc hk
          have hacc2 : (upd H' k (.tup [.int (ws.idxOf p0 : Nat), .str (lS ⟨d0, false⟩), .int (ws.idxOf q0 : Nat)])) D = some (.lst acc) := by rw [upd_ne hkD]; exact hacc
          have hpre : pre.length < 100000 := by
            have := congrArg List.length e
            simp at this
            omega
          refine ⟨acc, hacc2, sz1M (by omega), acc ++ [.ref k], same_mut (s5.trans (same_new hk)) hDn, upd_same, by simp; omega, ?_⟩
          have e7 : numb ws (pre ++ [(p0, d0, q0)]) = numb ws pre ++ [(ws.idxOf p0, d0, ws.idxOf q0)] := by
            unfold numb
            rw [List.filter_append, List.map_append]
            simp [hp0]
          rw [e7, List.map_append]
          have k2 : KeepT (upd H' k (.tup [.int (ws.idxOf p0 : Nat), .str (lS ⟨d0, false⟩), .int (ws.idxOf q0 : Nat)])) (upd (upd H' k (.tup [.int (ws.idxOf p0 : Nat), .str (lS ⟨d0, false⟩), .int (ws.idxOf q0 : Nat)])) D (.lst (acc ++ [.ref k]))) := KeepT.put (.inr (by rw [hacc2]; exact True.intro))
          exact dp_snoc (dp_of3 (k2.sqT (SqT.of upd_same))) (dpAll_keep k2 (dpAll_same (same_new hk) had) (flat_ways _))
        · have e5 : (valV kvs (.inl (p0 : Int))) = none := by rw [gN.2 p0, if_neg hp0]
          rw [e5]
          refine iteF ?_
          have e7 : numb ws (pre ++ [(p0, d0, q0)]) = numb ws pre := by
            unfold numb
            rw [List.filter_append, List.map_append]
            simp [hp0]
          rw [e7]
          exact ⟨acc, s5, hacc, by simp; omega, had⟩
      · rintro H' ⟨acc, s5, hacc, hal, had⟩
        have gwl5 := s5 _ _ gwl
        refine ⟨_, rfl, wl, _, rfl, .inl (SqL.of gwl5), ?_⟩
        refine ⟨_, rfl, D, acc, numb ws W, rfl, SqL.of hacc, had, fun so vs' hso hdd => ?_⟩
        refine ⟨so, vs', rfl, .inl ⟨SqL.of upd_same, fun tp htp => ?_⟩⟩
        refine ⟨(by show 2 ≤ sizeLine; decide), fun rp hrp => ?_⟩
        have t1 : Same H' (upd H' so (.lst vs')) := same_new hso
        have t2 := t1.trans (same_new htp (o := .tup vs'))
        have t3 := t2.trans (same_new hrp (o := .lst [.int ((ivs ws).length : Nat), .ref tp]))
        have htr : tp ≠ rp := ne_of_none upd_same hrp
        refine q rp tp ws vs' _ ?_ ((s4.trans s5).trans t3) ?_ ?_ ?_ hB (by omega)
        · exact ((s4.trans s5).trans t2).free hrp
        · rw [upd_same, el]
        · rw [upd_ne htr, upd_same]
        · exact dpAll_keep (KeepT.of t3) hdd (by
            have := flat_ways (wsort (numb ws W))
            exact this)
/-- numbered ways, as the law tells them: a list of the size and of the ways in order -/
def NumL (K : PySem.W.Frag) (H : Hp) (p : Addr) (w : WebD) : Prop := ∃ t vs, H p = some (.lst [.int (w.size : Nat), .ref t]) ∧ H t = some (.tup vs) ∧ DpAll K H vs (w.ways.map encW)
def spLWeb (K : PySem.W.Frag) : Sp := fun vs H Q _ => ∃ (a g b : Addr) (ds : List (Fin 26)) (rs : List Row), vs = [.ref a, .str (dS ds), .ref b] ∧ PoolAt H a g ∧ RowsAt K H b rs ∧ b ∉ [a, g] ∧ ds.length ≤ 26 ∧ rs.length ≤ 50 ∧ RowsOk ds rs 1000 ∧ (rs.map List.length).sum ≤ 76 ∧
  ∀ p w H', H p = none → PoolAt H' a g → Upto [a, g] H H' → IsWeb (lets ds) rs w → NumL K H' p w → w.ways.length ≤ 76 → w.size ≤ 77 → (∀ m, (∀ r ∈ rs, r.length ≤ m) → FxW m rs.length w) → Q (.ref p) H'
theorem net_sum : ∀ rs : List Row, (rs.map fun r => (net r).length).sum ≤ (rs.map List.length).sum
  | [] => Nat.le_refl _
  | r :: rs => by
    have := net_length_le r
    have := net_sum rs
    simp only [List.map_cons, List.sum_cons]
    omega
theorem ok__law_web (T : Top K mg) : FnOk P w K mg base CX0 4 T.d__law_web.f T.d__law_web.d ["_law_pool_here", "_law_deeds_here", "_law_rows_here"] (spLWeb K) := by
  refine T.d__law_web.F.ok sc__law_web (fun vs H Q E h => ?_) (fun cdv A outer s H vs Q E hr h => ?_)
  · obtain ⟨a, g, b, ds, rs, rfl, _⟩ := h
    rfl
  · obtain ⟨a, g, b, ds, rs, rfl, hP, hR, bn, hds, hrl, hro, hsum, q⟩ := h
    have hu := hu_of hr
    refine ⟨_,
      (pss_one (ps_ret (pe_call (ok__law_numbered T) (hr.mono (by decide)) (by rfl) T.d__law_numbered.g T.d__law_numbered.F.kp T.d__law_numbered.b .nil pass0 (pa_cons (pv 1) (pa_cons (pe_call (ok__law_trimmed T) (hr.mono (by decide)) (by rfl) T.d__law_trimmed.g T.d__law_trimmed.F.kp T.d__law_trimmed.b .nil pass0 (pa_cons (pe_call (ok__law_folded T) (hr.mono (by decide)) (by rfl) T.d__law_folded.g T.d__law_folded.F.kp T.d__law_folded.b .nil pass0 (pa_cons (pv 0) (pa_cons (pe_call (ok__law_laid T) (hr.mono (by decide)) (by rfl) T.d__law_laid.g T.d__law_laid.F.kp T.d__law_laid.b .nil pass0 (pa_cons (pv 2) pa_nil)) pa_nil))) pa_nil)) pa_nil)))))
      , ?_⟩
    have hls : ∀ x ∈ lets ds, x.inv ∈ lets ds := fun x hx => lets_inv hx
    have hns := net_sum rs
    have hll : (fwd (laidL 1 rs)).length ≤ 76 := by
      unfold fwd
      rw [List.length_map, laidL_len]
      omega
    have hmany := laidLMany_up rs 1
    refine ⟨_, rfl, _, rfl, _, rfl, b, rs, rfl, hR, hrl, fun r hr2 => (hro r hr2).2, fun p H1 hp s1 hW => ?_⟩
    refine ⟨a, g, p, fwd (laidL 1 rs), laidLMany 1 rs, lets ds, rs, labelsL 1 rs, rfl, hP.same s1, hW, hP.out hp, hll, by omega, ?_, fo_laid hls fun r hr2 => (hro r hr2).1, fun p2 H2 V hp2 hP2 u2 hW2 hl2 hDet hnd hF hlt hFx => ?_⟩
    · exact fwd_lt fun p x q h => by
        obtain ⟨h1, h2, _⟩ := laidL_lt (by omega) h
        exact ⟨h1, h2⟩
    refine ⟨p2, V, rfl, hW2, by omega, hDet, hF.loop, fun H3 s3 => ?_⟩
    refine ⟨ds, p2, V, rfl, hW2.same s3, by omega, hds, hDet, hF.lets, fun p4 t R vs' H4 hp4 s4 g1 g2 g3 hB hRl => ?_⟩
    have u4 : Upto [a, g] H H4 := ((Upto.of s1).trans u2).trans ((Upto.of s3).trans (Upto.of s4))
    have hP4 := (hP2.same s3).same s4
    refine q p4 (webOf R V) H4 ?_ hP4 u4 (hF.isWeb hDet hnd hB) ⟨t, vs', g1, g2, g3⟩ ?_ (by show R.length ≤ 77; omega) (fun m hm => fx_web (hFx m rs.length (fx_laid hm)) (hF.right hDet hnd) hB hlt)
    rotate_left
    · show (wsort (numb R V)).length ≤ 76
      rw [wsort_length]
      exact Nat.le_trans (numb_len _ _) (by omega)
    exact s1.free ((hP2.free u2 (s3.free hp4)))
end
end Rb
/-! Webs and draws. -/
namespace Rb
set_option linter.all false
set_option maxRecDepth 100000
set_option maxHeartbeats 8000000
open PySem PySem.Spec PyProof.Rows L2
/-- a draw leaves a web as it is -/
theorem WebAt.upto {K : PySem.W.Frag} {C : Addr} {H H' : Hp} {p a g : Addr} {ds : List (Fin 26)} {w : WebD} (h : WebAt K C H p ds w) (hP : PoolAt H a g) (u : Upto [a, g] H H') : WebAt K C H' p ds w := by
  obtain ⟨o, dx, t, l, vs, ads, m, h1, h2, h3, h4, h5, h6⟩ := h
  have hk : KeepT H H' := keep_upto u hP.mut
  obtain ⟨hne, sd, ct, gs, g1, g2⟩ := id hP
  have out : ∀ {b : Addr} {ob : HO}, H b = some ob → (∀ xs, ob = .lst xs → xs ≠ [.int sd, .int ct, .ref g] ∧ xs ≠ gs.map V.int) → b ∉ [a, g] := by
    intro b ob hb hx hm
    rcases List.mem_cons.mp hm with rfl | hm
    · rw [hb] at g1
      exact (hx _ (Option.some.inj g1)).1 rfl
    · rw [List.mem_singleton.mp hm] at hb
      rw [hb] at g2
      exact (hx _ (Option.some.inj g2)).2 rfl
  have hads : ads ≠ [] := fun z => by
    rw [z] at h5
    have := o.pos
    simp at h5
    omega
  refine ⟨o, dx, t, l, vs, ads, m, u _ _ h1 (out h1 fun xs e => by cases e), u _ _ h2 (out h2 fun xs e => by cases e), dpAll_keep hk h3 (flat_ways _), u _ _ h4 (out h4 fun xs e => ?_), h5, ⟨fun i b hb => ?_⟩⟩
  · cases e
    cases ads with
    | nil => exact absurd rfl hads
    | cons b bs =>
      refine ⟨fun z => ?_, fun z => ?_⟩
      · have z2 := congrArg List.head? z
        cases z2
      · cases gs with
        | nil => cases z
        | cons x gs =>
          have z2 := congrArg List.head? z
          cases z2
  · obtain ⟨kvs, k1, k2, k3⟩ := h6.at_ i b hb
    exact ⟨kvs, u _ _ k1 (out k1 fun xs e => by cases e), k2, k3⟩
theorem WebAt.ins {K : PySem.W.Frag} {C : Addr} {H : Hp} {p : Addr} {ds : List (Fin 26)} {w : WebD} (h : WebAt K C H p ds w) : ∃ dx fs, H p = some (.ins C dx fs) := by
  obtain ⟨_, dx, _, _, _, _, _, h1, _⟩ := h
  exact ⟨dx, _, h1⟩
end Rb
/-! The law of k71. -/
namespace Rb
set_option linter.all false
set_option maxRecDepth 100000
set_option maxHeartbeats 8000000
open PySem PySem.Spec PyProof.Rows L2
theorem sum_le (m : Nat) : ∀ rs : List Row, (∀ r ∈ rs, r.length ≤ m) → (rs.map List.length).sum ≤ rs.length * m
  | [], _ => by simp
  | r :: rs, h => by
    have h1 := sum_le m rs fun x hx => h x (List.mem_cons_of_mem _ hx)
    have h2 := h r (by simp)
    simp only [List.map_cons, List.sum_cons, List.length_cons, Nat.add_mul, Nat.one_mul]
    omega
theorem rows_upto {K : PySem.W.Frag} {H H' : Hp} {a : Addr} {rs : List Row} {S : List Addr} (h : RowsAt K H a rs) (e : Upto S H H') (ha : a ∉ S) : RowsAt K H' a rs := h.imp (fun z => e _ _ z ha) (fun z => e _ _ z ha)
theorem rEq_oV {x : Option Nat} {H : Hp} {Q : V → Hp → Prop} (h : Q (.bl (decide (x = some 0))) H) : rEq (oV x) (.int 0) H Q := by
  have e : decide (oV x = V.int 0) = decide (x = some 0) := by
    cases x with
    | none => rfl
    | some c =>
      show decide (V.int (c : Int) = V.int 0) = decide (some c = some 0)
      by_cases h : c = 0
      · subst h; rfl
      · have h2 : ¬ ((c : Int) = 0) := by omega
        simp [h, h2]
  rw [← e] at h
  cases x with
  | none => exact ⟨rfl, h⟩
  | some c => exact ⟨rfl, h⟩
theorem home_test {x : Option Nat} {σ : L2.St} {H : Hp} {Q : V → Hp → Prop} (h : Q (.bl (decide (x = some 0))) H) : tC (V.int 0) σ H (fun y H2 => rEq (oV x) y H2 Q) := rEq_oV h
section
variable {P : Program} {w : World} {K : PySem.W.Frag} {mg : Str → Option Value} {base : Heap}
def spLaw (K : PySem.W.Frag) : Sp := fun vs H Q _ => ∃ (a : Addr) (ns : List Int), vs = [.ref a] ∧ SqL K H a (ns.map V.int) ∧ ns.length ≤ 63 ∧ ∀ H', Q (.bl true) H'
theorem ok_law (T : Top K mg) (hr9 : Room 10 callerA) : TopOk P w K mg base T.d_law.f T.d_law.d ["_law_script"] (spLaw K) := by
  refine top_ok (k := 9) T.d_law.F sc_law hr9 (fun cdv s H vs Q hr hl h => ?_)
  obtain ⟨a, ns, rfl, ha, hn, q⟩ := h
  have hu := hu_of hr
  refine ⟨_,
    (pss_cons (ps_set (i := 1) sc_law.nd rfl (Or.inl rfl) (pe_call (ok__law_pool T) (hr.mono (by decide)) (by rfl) T.d__law_pool.g T.d__law_pool.F.kp T.d__law_pool.b .nil pass0 (pa_cons (pv 0) pa_nil)))
    (pss_cons (ps_set (i := 2) sc_law.nd rfl (Or.inl rfl) (pe_call (ok__law_deeds T) (hr.mono (by decide)) (by rfl) T.d__law_deeds.g T.d__law_deeds.F.kp T.d__law_deeds.b .nil pass0 (pa_cons (pv 1) pa_nil)))
    (pss_cons (ps_set (i := 3) sc_law.nd rfl (Or.inl rfl) (pe_call (ok__law_rows T) (hr.mono (by decide)) (by rfl) T.d__law_rows.g T.d__law_rows.F.kp T.d__law_rows.b .nil pass0 (pa_cons (pv 1) (pa_cons (pv 2) (pa_cons pe_int (pa_cons pe_int pa_nil))))))
    (pss_cons (ps_set (i := 4) sc_law.nd rfl (Or.inl rfl) (pe_call (ok__law_denied T) (hr.mono (by decide)) (by rfl) T.d__law_denied.g T.d__law_denied.F.kp T.d__law_denied.b .nil pass0 (pa_cons (pv 1) (pa_cons (pv 2) (pa_cons (pv 3) pa_nil)))))
    (pss_cons (ps_set (i := 5) sc_law.nd rfl (Or.inr rfl) (pe_call (ok__law_steps T) (hr.mono (by decide)) (by rfl) T.d__law_steps.g T.d__law_steps.F.kp T.d__law_steps.b .nil pass0 (pa_cons (pe_ix ix_list (pe_call (ok__law_web T) (hr.mono (by decide)) (by rfl) T.d__law_web.g T.d__law_web.F.kp T.d__law_web.b .nil pass0 (pa_cons (pv 1) (pa_cons (pv 2) (pa_cons (pv 3) pa_nil)))) pe_int (fun _ _ => rfl)) pa_nil)))
    (pss_cons (ps_setLc (i := 6) (own := [("_law_row", 8)]) (g := (gName 8)) rfl sc_law.nd rfl rfl (sw_true rfl rfl rfl (by decide +kernel)) (pi_list (pv 4)) (blkOk_by (N := N_law) (sc := defScope s_law) (by decide +kernel)) (fun _ _ _ _ _ => (pg_name (i := 8) sc_law.nd rfl (Or.inl rfl))) (fun _ _ _ _ _ => (pts_one (pt_cmpR op_eq (pe_call (ok__law_lead T) (hr.mono (by decide)) (by rfl) T.d__law_lead.g T.d__law_lead.F.kp T.d__law_lead.b .nil pass0 (pa_cons (pv 5) (pa_cons pe_int (pa_cons (pe_call (ok__law_net T) (hr.mono (by decide)) (by rfl) T.d__law_net.g T.d__law_net.F.kp T.d__law_net.b .nil pass0 (pa_cons (pv 8) pa_nil)) pa_nil)))) pe_int (nomark _)))) (fun _ _ _ _ _ => (pv 8)))
    (pss_cons (ps_set (i := 7) sc_law.nd rfl (Or.inl rfl) (pe_call (ok_home T) (hr.mono (by decide)) (by rfl) T.d_home.g T.d_home.F.kp T.d_home.b .nil pass0 (pa_cons (pv 2) (pa_cons (pe_call (ok__law_listed T) (hr.mono (by decide)) (by rfl) T.d__law_listed.g T.d__law_listed.F.kp T.d__law_listed.b .nil pass0 (pa_cons (pv 1) (pa_cons (pv 3) pa_nil))) (pa_cons (pe_call (ok__law_listed T) (hr.mono (by decide)) (by rfl) T.d__law_listed.g T.d__law_listed.F.kp T.d__law_listed.b .nil pass0 (pa_cons (pv 1) (pa_cons (pv 4) pa_nil))) pa_nil)))))
    (pss_cons (ps_if (pt_cmpR op_gt (pe_callB call_len_seq (by rfl) T.z_len (by decide +kernel) (pa_cons (pv 6) pa_nil)) pe_int (nomark _))
    (pss_one (ps_ret (pe_and (pe_cmpR op_isN (pv 7) pe_non (nomark _)) (pe_one (pe_cmpR op_isN (pe_call (ok_home T) (hr.mono (by decide)) (by rfl) T.d_home.g T.d_home.F.kp T.d_home.b .nil pass0 (pa_cons (pv 2) (pa_cons (pv 3) (pa_cons (pe_slice sl_list (pv 6) po_none (po_some pe_int)) pa_nil)))) pe_non (nomark _))))))
    pss_nil)
    (pss_cons (ps_if (PW.pt (pw_or (pt_cmpR op_isN (pv 7) pe_non (nomark _)) (pw_or1 (pt_not (pt_val (pe_call (ok__law_is_home T) (hr.mono (by decide)) (by rfl) T.d__law_is_home.g T.d__law_is_home.F.kp T.d__law_is_home.b .nil pass0 (pa_cons (pv 2) (pa_cons (pv 3) (pa_cons (pv 4) (pa_cons (pv 7) pa_nil))))))))))
    (pss_one (ps_ret pe_bl))
    pss_nil)
    (pss_cons (ps_for PassesOwn.never rfl (pi_list (pv 3)) (pg_name (i := 8) sc_law.nd rfl (Or.inl rfl))
    (pss_one (ps_if (pt_cmpR op_ne (pe_call (ok_led T (wcR T)) (hr.mono (by decide)) (by rfl) T.d_led.g T.d_led.F.kp T.d_led.b .nil pass0 (pa_cons (pv 7) (pa_cons pe_int (pa_cons (pv 8) pa_nil)))) pe_int (nomark _))
    (pss_one (ps_ret pe_bl))
    pss_nil)))
    (pss_cons (ps_for PassesOwn.never rfl (pi_list (pv 4)) (pg_name (i := 8) sc_law.nd rfl (Or.inl rfl))
    (pss_one (ps_if (PW.pt (pw_or (pt_cmpR op_eq (pe_call (ok_led T (wcR T)) (hr.mono (by decide)) (by rfl) T.d_led.g T.d_led.F.kp T.d_led.b .nil pass0 (pa_cons (pv 7) (pa_cons pe_int (pa_cons (pv 8) pa_nil)))) pe_int (nomark _)) (pw_or1 (pt_cmpR op_eq (pe_call (ok__law_led T) (hr.mono (by decide)) (by rfl) T.d__law_led.g T.d__law_led.F.kp T.d__law_led.b .nil pass0 (pa_cons (pe_prop (pv 7) T.k_RawWorld.cl T.q_RawWorld_moves (ok_World_moves T (wcR T)) (hr.mono (by decide)) T.p_World_moves.b .nil pass0 rfl) (pa_cons pe_int (pa_cons (pe_call (ok__law_net T) (hr.mono (by decide)) (by rfl) T.d__law_net.g T.d__law_net.F.kp T.d__law_net.b .nil pass0 (pa_cons (pv 8) pa_nil)) pa_nil)))) pe_int (nomark _)))))
    (pss_one (ps_ret pe_bl))
    pss_nil)))
    (pss_cons (ps_if (pt_cmpR op_isN (pe_call (ok_home T) (hr.mono (by decide)) (by rfl) T.d_home.g T.d_home.F.kp T.d_home.b .nil pass0 (pa_cons (pv 2) (pa_cons (pe_callTy call_tuple_of (by rfl) T.z_tuple (by decide +kernel) (pa_cons (pv 3) pa_nil)) (pa_cons (pe_callTy call_tuple_of (by rfl) T.z_tuple (by decide +kernel) (pa_cons (pv 4) pa_nil)) pa_nil)))) pe_non (nomark _))
    (pss_one (ps_ret pe_bl))
    pss_nil)
    (pss_one (ps_ret (pe_call (ok__law_fits T) (hr.mono (by decide)) (by rfl) T.d__law_fits.g T.d__law_fits.F.kp T.d__law_fits.b .nil pass0 (pa_cons (pv 2) (pa_cons (pv 3) (pa_cons (pv 4) (pa_cons (pe_call (ok__law_product T) (hr.mono (by decide)) (by rfl) T.d__law_product.g T.d__law_product.F.kp T.d__law_product.b .nil pass0 (pa_cons (pv 1) (pa_cons (pv 3) (pa_cons pe_int pa_nil)))) (pa_cons (pv 7) pa_nil))))))))))))))))))))
    , ?_⟩
  refine ⟨_, rfl, a, ns, rfl, ha, by omega, fun p g H1 hp hg s1 hP1 => ?_⟩
  refine ⟨_, rfl, p, g, rfl, hP1, fun ds H2 hA hP2 u2 => ?_⟩
  have hd1 := hA.2.1
  have hd4 := hA.2.2
  refine ⟨_, rfl, _, rfl, p, g, ds, 5, 10, rfl, hP2, hd1, by omega, by omega, by omega, fun rl rs H3 hrl hrsl hro hP3 u3 grl => ?_⟩
  have rln : rl ∉ [p, g] := hP2.out hrl
  have hsum1 := sum_le 10 rs fun r hr => (hro r hr).2
  refine ⟨_, rfl, _, rfl, _, rfl, p, g, rl, ds, rs, rfl, hP3, grl, rln, hd1, by omega, fun r hr => ⟨(hro r hr).1, by have := (hro r hr).2; omega⟩, by omega, fun dl den H4 hdl hden1 hden6 hdo hP4 u4 gdl => ?_⟩
  have dln : dl ∉ [p, g] := hP3.out hdl
  have grl4 := u4 _ _ grl rln
  refine ⟨_, rfl, _, rfl, _, rfl, p, g, rl, ds, rs, rfl, hP4, .inl grl4, rln, by omega, by omega, fun r hr => ⟨(hro r hr).1, by have := (hro r hr).2; omega⟩, by omega, fun nl W H5 hnl hP5 u5 hI hN hWl hWs hFx => ?_⟩
  obtain ⟨t0, ws0, n1, n2, n3⟩ := id hN
  refine ⟨nl, _, _, _, rfl, rfl, SqL.of n1, atI_nat (j := 1) rfl, t0, W.ways, rfl, ⟨ws0, .inr n2, n3⟩, by omega, fun st kvs H6 hst s6 hst6 hF => ?_⟩
  have dln5 := u5 _ _ gdl dln
  have gdl6 := s6 _ _ dln5
  refine ⟨_, rfl, dl, rfl, ⟨_, SqL.of gdl6⟩, fun D hD => ?_⟩
  refine lc_dl (K := K) (xs := encR den) (ds := den) (List.length_map _) (fun pre H' => Same H6 H' ∧ H' D = some (.lst (encR (pre.filter fun r => keptB W.ways r)))) ⟨same_new hD, upd_same⟩ (fun pre H' h => SqL.of (h.1 _ _ gdl6)) ?_ ?_
  · rintro pre r post x H' e hx ⟨s7, gD⟩
    have ex := encR_at e hx
    subst ex
    have hr60 := (hdo r (by rw [e]; simp)).2
    have hpre : pre.length ≤ 6 := by
      have := congrArg List.length e
      simp at this
      omega
    have hfl := List.length_filter_le (fun r : Row => keptB W.ways r) pre
    refine ⟨rfl, _, rfl, _, rfl, r, rfl, by omega, fun H8 s8 => ?_⟩
    refine ⟨st, kvs, stepsD W.ways, 0, net r, rfl, s8 _ _ (s7 _ _ hst6), hF, fun H9 s9 => ?_⟩
    dsimp only
    refine home_test ?_
    refine ⟨_, rfl, ?_⟩
    show if keptB W.ways r = true then _ else _
    by_cases c : keptB W.ways r = true
    · rw [c]
      refine iteT ?_
      refine ⟨_, rfl, _, s9 _ _ (s8 _ _ gD), sz1M (by rw [encR_len]; omega), same_mut ((s7.trans s8).trans s9) hD, ?_⟩
      rw [upd_same, List.filter_append]
      simp [encR, c]
    · rw [Bool.not_eq_true] at c
      rw [c]
      refine iteF ?_
      refine ⟨(s7.trans s8).trans s9, ?_⟩
      rw [s9 _ _ (s8 _ _ gD), List.filter_append]
      simp [c]
  · rintro H7 ⟨s7, gD⟩
    generalize hmd : (den.filter fun r => keptB W.ways r) = md at *
    have hmdm : ∀ r ∈ md, r ∈ den ∧ keptB W.ways r = true := fun r hr => by
      rw [← hmd] at hr
      exact List.mem_filter.mp hr
    have t7 := s6.trans s7
    have hP7 := hP5.same t7
    have rln5 := u5 _ _ grl4 rln
    have grl7 := t7 _ _ rln5
    have gdl7 := t7 _ _ dln5
    have M6 : MakesOk ds rs 6 12 := ⟨by omega, fun r hr => ⟨(hro r hr).1, by have := (hro r hr).2; omega⟩⟩
    have D6 : DenOk ds den := ⟨hden6, hdo⟩
    refine ⟨_, rfl, _, rfl, _, rfl, p, g, rl, rs, rfl, hP7, grl7, rln, fun ml H8 hml hP8 u8 hR8 => ?_⟩
    have gdl8 := u8 _ _ gdl7 dln
    have grl8 := u8 _ _ grl7 rln
    refine ⟨_, rfl, _, rfl, p, g, dl, den, rfl, hP8, gdl8, dln, fun nl2 H9 hnl2 hP9 u9 hD9 => ?_⟩
    have mln : ml ∉ [p, g] := hP7.out hml
    have hR9 := rows_upto hR8 u9 mln
    have Dln : D ∉ [p, g] := (hP5.same s6).out hD
    have gD9 := u9 _ _ (u8 _ _ gD Dln) Dln
    have gdl9 := u9 _ _ gdl8 dln
    have grl9 := u9 _ _ grl8 rln
    refine ⟨ds, ml, nl2, rs, den, rfl, hR9, hD9, hA, M6, D6, fun W' hI' hok => ?_⟩
    have eW : W' = W := isWeb_eq hI' hI fun u => Iff.rfl
    subst eW
    have lmd : (encR md).length = md.length := encR_len _
    refine ⟨fun H10 s10 hex => ?_, fun wp H10 hwp s10 hno hWp => ?_⟩
    · have gD10 := s10 _ _ gD9
      have hpos : 0 < md.length := by
        obtain ⟨r, h1, h2⟩ := hex
        rw [← hmd]
        exact List.length_pos_of_mem (List.mem_filter.mpr ⟨h1, h2⟩)
      refine ⟨_, rfl, D, _, rfl, .inl (SqL.of gD10), _, _, rfl, rfl, _, rfl, ?_⟩
      rw [lmd, decide_eq_true (show ((md.length : Nat) : Int) > 0 by omega)]
      refine iteT ?_
      refine ⟨_, rfl, rfl, _, rfl, ?_⟩
      refine iteT ?_
      refine ⟨_, rfl, _, rfl, _, rfl, 1, rfl, D, _, rfl, SqL.of gD10, fun k1 hk1 => ?_⟩
      rw [show cutV (encR md) none (some 1) = encR (md.take 1) from encR_to md 1]
      have s11 := same_new hk1 (o := .lst (encR (md.take 1)))
      refine ⟨ds, rl, k1, rs, md.take 1, rfl, .inl (s11 _ _ (s10 _ _ grl9)), .inl upd_same, hA, M6, ⟨by rw [List.length_take]; omega, fun r hr => hdo r (hmdm r (List.mem_of_mem_take hr)).1⟩, fun W2 hI2 hok2 => ?_⟩
      have eW2 : W2 = W' := isWeb_eq hI2 hI fun u => Iff.rfl
      subst eW2
      refine ⟨fun H11 s12 _ => ⟨rfl, q H11⟩, fun wp2 H11 hwp2 s12 hno2 hW2 => ?_⟩
      obtain ⟨r0, hr0⟩ : ∃ r0, r0 ∈ md.take 1 := by
        cases hs : md with
        | nil => rw [hs] at hpos; cases hpos
        | cons r0 t => exact ⟨r0, by simp⟩
      have z := hno2 r0 hr0
      rw [(hmdm r0 (List.mem_of_mem_take hr0)).2] at z
      cases z
    · have hmd0 : md = [] := by
        rw [← hmd]
        exact List.filter_eq_nil_iff.mpr fun r hr => by rw [hno r hr]; simp
      have F := home_facts hI hok (by omega) (by omega) (fun r hr => (hdo r hr).1) ⟨hden6, fun r hr => (hdo r hr).2⟩ hno
      generalize hm : homeW W' den = m at *
      have gD10 := s10 _ _ gD9
      have grl10 := s10 _ _ grl9
      have gdl10 := s10 _ _ gdl9
      have hP10 := hP9.same s10
      have h26 : ds.length ≤ 26 := by omega
      have hnd : ds.Nodup := hA.1.imp fun {a b} h => by intro z; subst z; exact Nat.lt_irrefl _ h
      have hgo : ∀ r ∈ rs, goM m 0 r = 0 := fun r hr => F.made r (hro r hr).1 (Gen.mem hr)
      refine ⟨_, rfl, D, _, rfl, .inl (SqL.of gD10), _, _, rfl, rfl, _, rfl, ?_⟩
      rw [lmd, hmd0, decide_eq_false (show ¬ ((([] : List Row).length : Nat) : Int) > 0 by simp)]
      refine iteF ?_
      refine ⟨_, rfl, rfl, _, rfl, ?_⟩
      refine iteF ?_
      refine ⟨_, rfl, _, rfl, _, rfl, _, rfl, ds, rl, dl, wp, rs, den, m, rfl, grl10, gdl10, hA, by omega, by omega, fun r hr => (hro r hr).1, fun r hr => (hdo r hr).1, hWp, fun H11 s11 => ?_⟩
      rw [homeB_iff.mpr ⟨hgo, F.den⟩]
      refine ⟨_, rfl, ?_⟩
      refine iteF ?_
      have grl11 := s11 _ _ grl10
      refine ⟨_, rfl, rl, rfl, ⟨_, SqL.of grl11⟩, for_dl (K := K) (xs := encR rs) (ds := rs) (List.length_map _) (fun pre σ H' => ∃ v8, σ = [some (.ref a), some (.ref p), some (.str (dS ds)), some (.ref rl), some (.ref dl), some (.ref st), some (.ref D), some (.ref wp), v8] ∧ Same H11 H') ⟨_, rfl, Same.refl _⟩ ?_ ?_ ?_⟩
      · rintro pre σ H' ⟨_, _, h⟩
        exact SqL.of (h _ _ grl11)
      · rintro pre r post x σ H' e hx ⟨v8, rfl, s12⟩
        have ex := encR_at e hx
        subst ex
        have hrm : r ∈ rs := by rw [e]; simp
        refine ⟨_, rfl, _, rfl, wp, ds, m, 0, r, rfl, hWp.same (s11.trans s12), h26, F.ok.pos, (hro r hrm).1, ?_⟩
        rw [hgo r hrm]
        refine ⟨rfl, _, rfl, ?_⟩
        refine iteF ?_
        exact ⟨_, rfl, s12⟩
      · rintro σ H12 ⟨v8, rfl, s12⟩
        have gdl12 := s12 _ _ (s11 _ _ gdl10)
        have hW12 := hWp.same (s11.trans s12)
        refine ⟨_, rfl, dl, rfl, ⟨_, SqL.of gdl12⟩, for_dl (K := K) (xs := encR den) (ds := den) (List.length_map _) (fun pre σ H' => ∃ v8, σ = [some (.ref a), some (.ref p), some (.str (dS ds)), some (.ref rl), some (.ref dl), some (.ref st), some (.ref D), some (.ref wp), v8] ∧ Same H12 H') ⟨_, rfl, Same.refl _⟩ ?_ ?_ ?_⟩
        · rintro pre σ H' ⟨_, _, h⟩
          exact SqL.of (h _ _ gdl12)
        · rintro pre r post x σ H' e hx ⟨v8, rfl, s13⟩
          have ex := encR_at e hx
          subst ex
          have hrm : r ∈ den := by rw [e]; simp
          have ho := (hdo r hrm).1
          have hl60 := (hdo r hrm).2
          have hW13 := hW12.same s13
          refine ⟨_, rfl, _, rfl, wp, ds, m, 0, r, rfl, hW13, h26, F.ok.pos, ho, ?_⟩
          have hne := F.den r hrm
          refine ⟨rfl, _, rfl, ?_⟩
          show if decide (V.int ((goM m 0 r : Nat) : Int) = V.int ((0 : Nat) : Int)) = true then _ else _
          rw [dec_nat, decide_eq_false hne]
          refine iteF ?_
          obtain ⟨_, _, dx, _, _, hp13, _⟩ := id hW13
          refine ⟨_, rfl, wp, dx, _, rfl, hp13, wp, ds, m, rfl, hW13, hnd, h26, fun mv H14 hmv s14 hT => ?_⟩
          refine ⟨_, rfl, r, rfl, by omega, fun H15 s15 => ?_⟩
          refine ⟨mv, ds, m, 0, net r, rfl, hT.same s15, hnd, F.ok, F.ok.pos, F.size, ho.net, fun H16 s16 => ?_⟩
          rw [goM_net F.ok (fun x hx => lets_d (ho x hx)) F.ok.pos]
          refine ⟨rfl, _, rfl, ?_⟩
          show if decide (V.int ((goM m 0 r : Nat) : Int) = V.int ((0 : Nat) : Int)) = true then _ else _
          rw [dec_nat, decide_eq_false hne]
          refine iteF ?_
          exact ⟨_, rfl, ((s13.trans s14).trans s15).trans s16⟩
        · rintro σ H13 ⟨v8, rfl, s13⟩
          have t13 := (s11.trans s12).trans s13
          have grl13 := t13 _ _ grl10
          have gdl13 := t13 _ _ gdl10
          have hW13 := hW12.same s13
          have hP13 := hP10.same t13
          refine ⟨_, rfl, _, rfl, rl, _, rfl, .inl ⟨SqL.of grl13, fun k1 hk1 => ?_⟩⟩
          have e1n := same_new hk1 (o := .tup (encR rs))
          refine ⟨_, rfl, dl, _, rfl, .inl ⟨SqL.of (e1n _ _ gdl13), fun k2 hk2 => ?_⟩⟩
          have e2n := same_new hk2 (o := .tup (encR den))
          refine ⟨ds, k1, k2, rs, den, rfl, .inr (e2n _ _ upd_same), .inr upd_same, hA, M6, D6, fun W2 hI2 hok2 => ?_⟩
          have eW2 : W2 = W' := isWeb_eq hI2 hI fun u => Iff.rfl
          subst eW2
          refine ⟨fun H14 s14 hex => ?_, fun wp2 H14 hwp2 s14 hno2 hW2 => ?_⟩
          · obtain ⟨r, h1, h2⟩ := hex
            rw [hno r h1] at h2
            cases h2
          · refine ⟨rfl, _, rfl, ?_⟩
            refine iteF ?_
            have t14 := t13.trans ((e1n.trans e2n).trans s14)
            have grl14 := t14 _ _ grl10
            refine ⟨_, rfl, _, rfl, _, rfl, _, rfl, _, rfl, p, g, rl, ds, rs, 3, rfl, hP10.same t14, grl14, rln, fun r hr => ⟨(hro r hr).1, by have := (hro r hr).2; omega⟩, by omega, by omega, fun mr H15 hP15 u15 hmo hml hmg => ?_⟩
            have wpn : wp ∉ [p, g] := hP9.out hwp
            refine ⟨_, rfl, ds, rl, dl, wp, rs, den, mr, m, rfl, u15 _ _ grl14 rln, u15 _ _ (t14 _ _ gdl10) dln, hA, ⟨hrsl, hro⟩, D6, (hWp.same t14).upto (hP10.same t14) u15, hmo, by omega, F.made mr hmo hmg, homeB_iff.mpr ⟨hgo, F.den⟩, fun H16 => q H16⟩
theorem room9 : Room 10 callerA := ⟨rfl, by decide, by decide⟩
theorem law_start (K : PySem.W.Frag) (H : Hp) (a : Addr) (ns : List Int) (hl : ns.length ≤ 63) (hS : SqL K H a (ns.map V.int)) : spLaw K [.ref a] H (fun v _ => v = .bl true) fun _ _ _ => False := ⟨a, ns, rfl, hS, hl, fun _ => rfl⟩
end
end Rb
/-! What the top has left, gathered. Printed by gen.py. -/
namespace Rb
set_option linter.all false
set_option maxRecDepth 100000
set_option maxHeartbeats 8000000
open PySem PySem.Spec PyProof.Rows L2
theorem all_mk {l : PySem.W.OpenLaw} {w : World} {K : PySem.W.Frag} {h : Heap} {mg : Str → Option Value} {fa : Addr} (X : K.In h) (G : h.Ns mainGlobals mg) (hfa : mg "law" = some (.ref fa))
    {f_is_integer : Addr} {od_is_integer an_is_integer : Option Addr} {sl_is_integer : Array (Option Value)} {oc_is_integer kV_is_integer dc_is_integer pm_is_integer cd_is_integer ct_is_integer : Value}
    {f_is_listed : Addr} {od_is_listed an_is_listed : Option Addr} {sl_is_listed : Array (Option Value)} {oc_is_listed kV_is_listed dc_is_listed pm_is_listed cd_is_listed ct_is_listed : Value}
    {f_is_string_of : Addr} {od_is_string_of an_is_string_of : Option Addr} {sl_is_string_of : Array (Option Value)} {oc_is_string_of kV_is_string_of dc_is_string_of pm_is_string_of cd_is_string_of ct_is_string_of : Value}
    {f_is_word : Addr} {od_is_word an_is_word : Option Addr} {sl_is_word : Array (Option Value)} {oc_is_word kV_is_word dc_is_word pm_is_word cd_is_word ct_is_word : Value}
    {f_is_deeds : Addr} {od_is_deeds an_is_deeds : Option Addr} {sl_is_deeds : Array (Option Value)} {oc_is_deeds kV_is_deeds dc_is_deeds pm_is_deeds cd_is_deeds ct_is_deeds : Value}
    {f_undoing_of : Addr} {od_undoing_of an_undoing_of : Option Addr} {sl_undoing_of : Array (Option Value)} {oc_undoing_of kV_undoing_of dc_undoing_of pm_undoing_of cd_undoing_of ct_undoing_of : Value}
    {f_letters_over : Addr} {od_letters_over an_letters_over : Option Addr} {sl_letters_over : Array (Option Value)} {oc_letters_over kV_letters_over dc_letters_over pm_letters_over cd_letters_over ct_letters_over : Value}
    {f_is_row_over : Addr} {od_is_row_over an_is_row_over : Option Addr} {sl_is_row_over : Array (Option Value)} {oc_is_row_over kV_is_row_over dc_is_row_over pm_is_row_over cd_is_row_over ct_is_row_over : Value}
    {f_are_rows_over : Addr} {od_are_rows_over an_are_rows_over : Option Addr} {sl_are_rows_over : Array (Option Value)} {oc_are_rows_over kV_are_rows_over dc_are_rows_over pm_are_rows_over cd_are_rows_over ct_are_rows_over : Value}
    {f_check_row : Addr} {od_check_row an_check_row : Option Addr} {sl_check_row : Array (Option Value)} {oc_check_row kV_check_row dc_check_row pm_check_row cd_check_row ct_check_row : Value}
    {f_check_deeds : Addr} {od_check_deeds an_check_deeds : Option Addr} {sl_check_deeds : Array (Option Value)} {oc_check_deeds kV_check_deeds dc_check_deeds pm_check_deeds cd_check_deeds ct_check_deeds : Value}
    {f_check_rows : Addr} {od_check_rows an_check_rows : Option Addr} {sl_check_rows : Array (Option Value)} {oc_check_rows kV_check_rows dc_check_rows pm_check_rows cd_check_rows ct_check_rows : Value}
    {C_Places : Addr}
    {f_Places___init__ : Addr} {od_Places___init__ an_Places___init__ : Option Addr} {sl_Places___init__ : Array (Option Value)} {oc_Places___init__ kV_Places___init__ dc_Places___init__ pm_Places___init__ cd_Places___init__ ct_Places___init__ : Value}
    {f_Places_head : Addr} {od_Places_head an_Places_head : Option Addr} {sl_Places_head : Array (Option Value)} {oc_Places_head kV_Places_head dc_Places_head pm_Places_head cd_Places_head ct_Places_head : Value}
    {f_Places_join : Addr} {od_Places_join an_Places_join : Option Addr} {sl_Places_join : Array (Option Value)} {oc_Places_join kV_Places_join dc_Places_join pm_Places_join cd_Places_join ct_Places_join : Value}
    {f_forward_ways : Addr} {od_forward_ways an_forward_ways : Option Addr} {sl_forward_ways : Array (Option Value)} {oc_forward_ways kV_forward_ways dc_forward_ways pm_forward_ways cd_forward_ways ct_forward_ways : Value}
    {f_join_once : Addr} {od_join_once an_join_once : Option Addr} {sl_join_once : Array (Option Value)} {oc_join_once kV_join_once dc_join_once pm_join_once cd_join_once ct_join_once : Value}
    {f_joined_places : Addr} {od_joined_places an_joined_places : Option Addr} {sl_joined_places : Array (Option Value)} {oc_joined_places kV_joined_places dc_joined_places pm_joined_places cd_joined_places ct_joined_places : Value}
    {f_head_ways : Addr} {od_head_ways an_head_ways : Option Addr} {sl_head_ways : Array (Option Value)} {oc_head_ways kV_head_ways dc_head_ways pm_head_ways cd_head_ways ct_head_ways : Value}
    {f_hanging : Addr} {od_hanging an_hanging : Option Addr} {sl_hanging : Array (Option Value)} {oc_hanging kV_hanging dc_hanging pm_hanging cd_hanging ct_hanging : Value}
    {f_is_tail : Addr} {od_is_tail an_is_tail : Option Addr} {sl_is_tail : Array (Option Value)} {oc_is_tail kV_is_tail dc_is_tail pm_is_tail cd_is_tail ct_is_tail : Value}
    {f_without_tails : Addr} {od_without_tails an_without_tails : Option Addr} {sl_without_tails : Array (Option Value)} {oc_without_tails kV_without_tails dc_without_tails pm_without_tails cd_without_tails ct_without_tails : Value}
    {f_steps_of : Addr} {od_steps_of an_steps_of : Option Addr} {sl_steps_of : Array (Option Value)} {oc_steps_of kV_steps_of dc_steps_of pm_steps_of cd_steps_of ct_steps_of : Value}
    {f_numbered : Addr} {od_numbered an_numbered : Option Addr} {sl_numbered : Array (Option Value)} {oc_numbered kV_numbered dc_numbered pm_numbered cd_numbered ct_numbered : Value}
    {f_trimmed : Addr} {od_trimmed an_trimmed : Option Addr} {sl_trimmed : Array (Option Value)} {oc_trimmed kV_trimmed dc_trimmed pm_trimmed cd_trimmed ct_trimmed : Value}
    {f_folded_ways : Addr} {od_folded_ways an_folded_ways : Option Addr} {sl_folded_ways : Array (Option Value)} {oc_folded_ways kV_folded_ways dc_folded_ways pm_folded_ways cd_folded_ways ct_folded_ways : Value}
    {f_chain : Addr} {od_chain an_chain : Option Addr} {sl_chain : Array (Option Value)} {oc_chain kV_chain dc_chain pm_chain cd_chain ct_chain : Value}
    {f_ring_end : Addr} {od_ring_end an_ring_end : Option Addr} {sl_ring_end : Array (Option Value)} {oc_ring_end kV_ring_end dc_ring_end pm_ring_end cd_ring_end ct_ring_end : Value}
    {f_filled : Addr} {od_filled an_filled : Option Addr} {sl_filled : Array (Option Value)} {oc_filled kV_filled dc_filled pm_filled cd_filled ct_filled : Value}
    {f_net_letters : Addr} {od_net_letters an_net_letters : Option Addr} {sl_net_letters : Array (Option Value)} {oc_net_letters kV_net_letters dc_net_letters pm_net_letters cd_net_letters ct_net_letters : Value}
    {f_turned_back : Addr} {od_turned_back an_turned_back : Option Addr} {sl_turned_back : Array (Option Value)} {oc_turned_back kV_turned_back dc_turned_back pm_turned_back cd_turned_back ct_turned_back : Value}
    {f_is_standing : Addr} {od_is_standing an_is_standing : Option Addr} {sl_is_standing : Array (Option Value)} {oc_is_standing kV_is_standing dc_is_standing pm_is_standing cd_is_standing ct_is_standing : Value}
    {f_is_move : Addr} {od_is_move an_is_move : Option Addr} {sl_is_move : Array (Option Value)} {oc_is_move kV_is_move dc_is_move pm_is_move cd_is_move ct_is_move : Value}
    {f_are_moves : Addr} {od_are_moves an_are_moves : Option Addr} {sl_are_moves : Array (Option Value)} {oc_are_moves kV_are_moves dc_are_moves pm_are_moves cd_are_moves ct_are_moves : Value}
    {f_all_moves : Addr} {od_all_moves an_all_moves : Option Addr} {sl_all_moves : Array (Option Value)} {oc_all_moves kV_all_moves dc_all_moves pm_all_moves cd_all_moves ct_all_moves : Value}
    {C_World : Addr}
    {f_World___init__ : Addr} {od_World___init__ an_World___init__ : Option Addr} {sl_World___init__ : Array (Option Value)} {oc_World___init__ kV_World___init__ dc_World___init__ pm_World___init__ cd_World___init__ ct_World___init__ : Value}
    {f_World_keep : Addr} {od_World_keep an_World_keep : Option Addr} {sl_World_keep : Array (Option Value)} {oc_World_keep kV_World_keep dc_World_keep pm_World_keep cd_World_keep ct_World_keep : Value}
    {f_World___eq__ : Addr} {od_World___eq__ an_World___eq__ : Option Addr} {sl_World___eq__ : Array (Option Value)} {oc_World___eq__ kV_World___eq__ dc_World___eq__ pm_World___eq__ cd_World___eq__ ct_World___eq__ : Value}
    {pp_World_moves : Addr} {pr_World_moves : List Value}
    {f_World_moves : Addr} {od_World_moves an_World_moves : Option Addr} {sl_World_moves : Array (Option Value)} {oc_World_moves kV_World_moves dc_World_moves pm_World_moves cd_World_moves ct_World_moves : Value}
    {C_RawWorld : Addr}
    {f_RawWorld___init__ : Addr} {od_RawWorld___init__ an_RawWorld___init__ : Option Addr} {sl_RawWorld___init__ : Array (Option Value)} {oc_RawWorld___init__ kV_RawWorld___init__ dc_RawWorld___init__ pm_RawWorld___init__ cd_RawWorld___init__ ct_RawWorld___init__ : Value}
    {f_check_standing : Addr} {od_check_standing an_check_standing : Option Addr} {sl_check_standing : Array (Option Value)} {oc_check_standing kV_check_standing dc_check_standing pm_check_standing cd_check_standing ct_check_standing : Value}
    {f_led : Addr} {od_led an_led : Option Addr} {sl_led : Array (Option Value)} {oc_led kV_led dc_led pm_led cd_led ct_led : Value}
    {C_Web : Addr}
    {f_Web___init__ : Addr} {od_Web___init__ an_Web___init__ : Option Addr} {sl_Web___init__ : Array (Option Value)} {oc_Web___init__ kV_Web___init__ dc_Web___init__ pm_Web___init__ cd_Web___init__ ct_Web___init__ : Value}
    {f_Web___eq__ : Addr} {od_Web___eq__ an_Web___eq__ : Option Addr} {sl_Web___eq__ : Array (Option Value)} {oc_Web___eq__ kV_Web___eq__ dc_Web___eq__ pm_Web___eq__ cd_Web___eq__ ct_Web___eq__ : Value}
    {f_folded : Addr} {od_folded an_folded : Option Addr} {sl_folded : Array (Option Value)} {oc_folded kV_folded dc_folded pm_folded cd_folded ct_folded : Value}
    {f_check_makers : Addr} {od_check_makers an_check_makers : Option Addr} {sl_check_makers : Array (Option Value)} {oc_check_makers kV_check_makers dc_check_makers pm_check_makers cd_check_makers ct_check_makers : Value}
    {f_made_web : Addr} {od_made_web an_made_web : Option Addr} {sl_made_web : Array (Option Value)} {oc_made_web kV_made_web dc_made_web pm_made_web cd_made_web ct_made_web : Value}
    {C_Grown : Addr}
    {f_Grown___init__ : Addr} {od_Grown___init__ an_Grown___init__ : Option Addr} {sl_Grown___init__ : Array (Option Value)} {oc_Grown___init__ kV_Grown___init__ dc_Grown___init__ pm_Grown___init__ cd_Grown___init__ ct_Grown___init__ : Value}
    {f_Grown_go : Addr} {od_Grown_go an_Grown_go : Option Addr} {sl_Grown_go : Array (Option Value)} {oc_Grown_go kV_Grown_go dc_Grown_go pm_Grown_go cd_Grown_go ct_Grown_go : Value}
    {f_Grown_lead : Addr} {od_Grown_lead an_Grown_lead : Option Addr} {sl_Grown_lead : Array (Option Value)} {oc_Grown_lead kV_Grown_lead dc_Grown_lead pm_Grown_lead cd_Grown_lead ct_Grown_lead : Value}
    {f_check_home : Addr} {od_check_home an_check_home : Option Addr} {sl_check_home : Array (Option Value)} {oc_check_home kV_check_home dc_check_home pm_check_home cd_check_home ct_check_home : Value}
    {f_made_home : Addr} {od_made_home an_made_home : Option Addr} {sl_made_home : Array (Option Value)} {oc_made_home kV_made_home dc_made_home pm_made_home cd_made_home ct_made_home : Value}
    {f_home : Addr} {od_home an_home : Option Addr} {sl_home : Array (Option Value)} {oc_home kV_home dc_home pm_home cd_home ct_home : Value}
    {f_leads_home : Addr} {od_leads_home an_leads_home : Option Addr} {sl_leads_home : Array (Option Value)} {oc_leads_home kV_leads_home dc_leads_home pm_leads_home cd_leads_home ct_leads_home : Value}
    {f_is_home : Addr} {od_is_home an_is_home : Option Addr} {sl_is_home : Array (Option Value)} {oc_is_home kV_is_home dc_is_home pm_is_home cd_is_home ct_is_home : Value}
    {f__law_pool : Addr} {od__law_pool an__law_pool : Option Addr} {sl__law_pool : Array (Option Value)} {oc__law_pool kV__law_pool dc__law_pool pm__law_pool cd__law_pool ct__law_pool : Value}
    {f__law_draw : Addr} {od__law_draw an__law_draw : Option Addr} {sl__law_draw : Array (Option Value)} {oc__law_draw kV__law_draw dc__law_draw pm__law_draw cd__law_draw ct__law_draw : Value}
    {f__law_deeds : Addr} {od__law_deeds an__law_deeds : Option Addr} {sl__law_deeds : Array (Option Value)} {oc__law_deeds kV__law_deeds dc__law_deeds pm__law_deeds cd__law_deeds ct__law_deeds : Value}
    {f__law_letters : Addr} {od__law_letters an__law_letters : Option Addr} {sl__law_letters : Array (Option Value)} {oc__law_letters kV__law_letters dc__law_letters pm__law_letters cd__law_letters ct__law_letters : Value}
    {f__law_flip : Addr} {od__law_flip an__law_flip : Option Addr} {sl__law_flip : Array (Option Value)} {oc__law_flip kV__law_flip dc__law_flip pm__law_flip cd__law_flip ct__law_flip : Value}
    {f__law_net : Addr} {od__law_net an__law_net : Option Addr} {sl__law_net : Array (Option Value)} {oc__law_net kV__law_net dc__law_net pm__law_net cd__law_net ct__law_net : Value}
    {f__law_undone : Addr} {od__law_undone an__law_undone : Option Addr} {sl__law_undone : Array (Option Value)} {oc__law_undone kV__law_undone dc__law_undone pm__law_undone cd__law_undone ct__law_undone : Value}
    {f__law_word : Addr} {od__law_word an__law_word : Option Addr} {sl__law_word : Array (Option Value)} {oc__law_word kV__law_word dc__law_word pm__law_word cd__law_word ct__law_word : Value}
    {f__law_rows : Addr} {od__law_rows an__law_rows : Option Addr} {sl__law_rows : Array (Option Value)} {oc__law_rows kV__law_rows dc__law_rows pm__law_rows cd__law_rows ct__law_rows : Value}
    {f__law_listed : Addr} {od__law_listed an__law_listed : Option Addr} {sl__law_listed : Array (Option Value)} {oc__law_listed kV__law_listed dc__law_listed pm__law_listed cd__law_listed ct__law_listed : Value}
    {f__law_laid : Addr} {od__law_laid an__law_laid : Option Addr} {sl__law_laid : Array (Option Value)} {oc__law_laid kV__law_laid dc__law_laid pm__law_laid cd__law_laid ct__law_laid : Value}
    {f__law_clash : Addr} {od__law_clash an__law_clash : Option Addr} {sl__law_clash : Array (Option Value)} {oc__law_clash kV__law_clash dc__law_clash pm__law_clash cd__law_clash ct__law_clash : Value}
    {f__law_folded : Addr} {od__law_folded an__law_folded : Option Addr} {sl__law_folded : Array (Option Value)} {oc__law_folded kV__law_folded dc__law_folded pm__law_folded cd__law_folded ct__law_folded : Value}
    {f__law_trimmed : Addr} {od__law_trimmed an__law_trimmed : Option Addr} {sl__law_trimmed : Array (Option Value)} {oc__law_trimmed kV__law_trimmed dc__law_trimmed pm__law_trimmed cd__law_trimmed ct__law_trimmed : Value}
    {f__law_steps : Addr} {od__law_steps an__law_steps : Option Addr} {sl__law_steps : Array (Option Value)} {oc__law_steps kV__law_steps dc__law_steps pm__law_steps cd__law_steps ct__law_steps : Value}
    {f__law_numbered : Addr} {od__law_numbered an__law_numbered : Option Addr} {sl__law_numbered : Array (Option Value)} {oc__law_numbered kV__law_numbered dc__law_numbered pm__law_numbered cd__law_numbered ct__law_numbered : Value}
    {f__law_web : Addr} {od__law_web an__law_web : Option Addr} {sl__law_web : Array (Option Value)} {oc__law_web kV__law_web dc__law_web pm__law_web cd__law_web ct__law_web : Value}
    {f__law_lead : Addr} {od__law_lead an__law_lead : Option Addr} {sl__law_lead : Array (Option Value)} {oc__law_lead kV__law_lead dc__law_lead pm__law_lead cd__law_lead ct__law_lead : Value}
    {f__law_product : Addr} {od__law_product an__law_product : Option Addr} {sl__law_product : Array (Option Value)} {oc__law_product kV__law_product dc__law_product pm__law_product cd__law_product ct__law_product : Value}
    {f__law_led : Addr} {od__law_led an__law_led : Option Addr} {sl__law_led : Array (Option Value)} {oc__law_led kV__law_led dc__law_led pm__law_led cd__law_led ct__law_led : Value}
    {f__law_is_home : Addr} {od__law_is_home an__law_is_home : Option Addr} {sl__law_is_home : Array (Option Value)} {oc__law_is_home kV__law_is_home dc__law_is_home pm__law_is_home cd__law_is_home ct__law_is_home : Value}
    {f__law_denied : Addr} {od__law_denied an__law_denied : Option Addr} {sl__law_denied : Array (Option Value)} {oc__law_denied kV__law_denied dc__law_denied pm__law_denied cd__law_denied ct__law_denied : Value}
    {f__law_fits : Addr} {od__law_fits an__law_fits : Option Addr} {sl__law_fits : Array (Option Value)} {oc__law_fits kV__law_fits dc__law_fits pm__law_fits cd__law_fits ct__law_fits : Value}
    {f_law : Addr} {od_law an_law : Option Addr} {sl_law : Array (Option Value)} {oc_law kV_law dc_law pm_law cd_law ct_law : Value}
    {t_SMALL : Tok}
    {t_MOST_STANDINGS : Tok}
    {t_MOST_ROWS : Tok}
    {t_LONGEST : Tok}
    {t_MOST_DENIED : Tok}
    {t_LONGEST_DENIED : Tok}
    (a_is_integer : PySem.W.nsIn K mainGlobals "is_integer" = some (some (.ref f_is_integer)))
    (l_is_integer : K.lookup f_is_integer = some ⟨oc_is_integer, od_is_integer, .func (PySem.W.fnOf "is_integer" "is_integer" (defArgs s_is_integer) (defBody s_is_integer) (defScope s_is_integer) .none kV_is_integer dc_is_integer pm_is_integer an_is_integer cd_is_integer ct_is_integer), sl_is_integer⟩)
    (c_is_integer : PySem.W.codeIn K cd_is_integer "is_integer" = true)
    (p_is_integer : PySem.W.keepIn K (.ref f_is_integer) = true)
    (a_is_listed : PySem.W.nsIn K mainGlobals "is_listed" = some (some (.ref f_is_listed)))
    (l_is_listed : K.lookup f_is_listed = some ⟨oc_is_listed, od_is_listed, .func (PySem.W.fnOf "is_listed" "is_listed" (defArgs s_is_listed) (defBody s_is_listed) (defScope s_is_listed) .none kV_is_listed dc_is_listed pm_is_listed an_is_listed cd_is_listed ct_is_listed), sl_is_listed⟩)
    (c_is_listed : PySem.W.codeIn K cd_is_listed "is_listed" = true)
    (p_is_listed : PySem.W.keepIn K (.ref f_is_listed) = true)
    (a_is_string_of : PySem.W.nsIn K mainGlobals "is_string_of" = some (some (.ref f_is_string_of)))
    (l_is_string_of : K.lookup f_is_string_of = some ⟨oc_is_string_of, od_is_string_of, .func (PySem.W.fnOf "is_string_of" "is_string_of" (defArgs s_is_string_of) (defBody s_is_string_of) (defScope s_is_string_of) .none kV_is_string_of dc_is_string_of pm_is_string_of an_is_string_of cd_is_string_of ct_is_string_of), sl_is_string_of⟩)
    (c_is_string_of : PySem.W.codeIn K cd_is_string_of "is_string_of" = true)
    (p_is_string_of : PySem.W.keepIn K (.ref f_is_string_of) = true)
    (a_is_word : PySem.W.nsIn K mainGlobals "is_word" = some (some (.ref f_is_word)))
    (l_is_word : K.lookup f_is_word = some ⟨oc_is_word, od_is_word, .func (PySem.W.fnOf "is_word" "is_word" (defArgs s_is_word) (defBody s_is_word) (defScope s_is_word) .none kV_is_word dc_is_word pm_is_word an_is_word cd_is_word ct_is_word), sl_is_word⟩)
    (c_is_word : PySem.W.codeIn K cd_is_word "is_word" = true)
    (p_is_word : PySem.W.keepIn K (.ref f_is_word) = true)
    (a_is_deeds : PySem.W.nsIn K mainGlobals "is_deeds" = some (some (.ref f_is_deeds)))
    (l_is_deeds : K.lookup f_is_deeds = some ⟨oc_is_deeds, od_is_deeds, .func (PySem.W.fnOf "is_deeds" "is_deeds" (defArgs s_is_deeds) (defBody s_is_deeds) (defScope s_is_deeds) .none kV_is_deeds dc_is_deeds pm_is_deeds an_is_deeds cd_is_deeds ct_is_deeds), sl_is_deeds⟩)
    (c_is_deeds : PySem.W.codeIn K cd_is_deeds "is_deeds" = true)
    (p_is_deeds : PySem.W.keepIn K (.ref f_is_deeds) = true)
    (a_undoing_of : PySem.W.nsIn K mainGlobals "undoing_of" = some (some (.ref f_undoing_of)))
    (l_undoing_of : K.lookup f_undoing_of = some ⟨oc_undoing_of, od_undoing_of, .func (PySem.W.fnOf "undoing_of" "undoing_of" (defArgs s_undoing_of) (defBody s_undoing_of) (defScope s_undoing_of) .none kV_undoing_of dc_undoing_of pm_undoing_of an_undoing_of cd_undoing_of ct_undoing_of), sl_undoing_of⟩)
    (c_undoing_of : PySem.W.codeIn K cd_undoing_of "undoing_of" = true)
    (p_undoing_of : PySem.W.keepIn K (.ref f_undoing_of) = true)
    (a_letters_over : PySem.W.nsIn K mainGlobals "letters_over" = some (some (.ref f_letters_over)))
    (l_letters_over : K.lookup f_letters_over = some ⟨oc_letters_over, od_letters_over, .func (PySem.W.fnOf "letters_over" "letters_over" (defArgs s_letters_over) (defBody s_letters_over) (defScope s_letters_over) .none kV_letters_over dc_letters_over pm_letters_over an_letters_over cd_letters_over ct_letters_over), sl_letters_over⟩)
    (c_letters_over : PySem.W.codeIn K cd_letters_over "letters_over" = true)
    (p_letters_over : PySem.W.keepIn K (.ref f_letters_over) = true)
    (a_is_row_over : PySem.W.nsIn K mainGlobals "is_row_over" = some (some (.ref f_is_row_over)))
    (l_is_row_over : K.lookup f_is_row_over = some ⟨oc_is_row_over, od_is_row_over, .func (PySem.W.fnOf "is_row_over" "is_row_over" (defArgs s_is_row_over) (defBody s_is_row_over) (defScope s_is_row_over) .none kV_is_row_over dc_is_row_over pm_is_row_over an_is_row_over cd_is_row_over ct_is_row_over), sl_is_row_over⟩)
    (c_is_row_over : PySem.W.codeIn K cd_is_row_over "is_row_over" = true)
    (p_is_row_over : PySem.W.keepIn K (.ref f_is_row_over) = true)
    (a_are_rows_over : PySem.W.nsIn K mainGlobals "are_rows_over" = some (some (.ref f_are_rows_over)))
    (l_are_rows_over : K.lookup f_are_rows_over = some ⟨oc_are_rows_over, od_are_rows_over, .func (PySem.W.fnOf "are_rows_over" "are_rows_over" (defArgs s_are_rows_over) (defBody s_are_rows_over) (defScope s_are_rows_over) .none kV_are_rows_over dc_are_rows_over pm_are_rows_over an_are_rows_over cd_are_rows_over ct_are_rows_over), sl_are_rows_over⟩)
    (c_are_rows_over : PySem.W.codeIn K cd_are_rows_over "are_rows_over" = true)
    (p_are_rows_over : PySem.W.keepIn K (.ref f_are_rows_over) = true)
    (a_check_row : PySem.W.nsIn K mainGlobals "check_row" = some (some (.ref f_check_row)))
    (l_check_row : K.lookup f_check_row = some ⟨oc_check_row, od_check_row, .func (PySem.W.fnOf "check_row" "check_row" (defArgs s_check_row) (defBody s_check_row) (defScope s_check_row) .none kV_check_row dc_check_row pm_check_row an_check_row cd_check_row ct_check_row), sl_check_row⟩)
    (c_check_row : PySem.W.codeIn K cd_check_row "check_row" = true)
    (p_check_row : PySem.W.keepIn K (.ref f_check_row) = true)
    (a_check_deeds : PySem.W.nsIn K mainGlobals "check_deeds" = some (some (.ref f_check_deeds)))
    (l_check_deeds : K.lookup f_check_deeds = some ⟨oc_check_deeds, od_check_deeds, .func (PySem.W.fnOf "check_deeds" "check_deeds" (defArgs s_check_deeds) (defBody s_check_deeds) (defScope s_check_deeds) .none kV_check_deeds dc_check_deeds pm_check_deeds an_check_deeds cd_check_deeds ct_check_deeds), sl_check_deeds⟩)
    (c_check_deeds : PySem.W.codeIn K cd_check_deeds "check_deeds" = true)
    (p_check_deeds : PySem.W.keepIn K (.ref f_check_deeds) = true)
    (a_check_rows : PySem.W.nsIn K mainGlobals "check_rows" = some (some (.ref f_check_rows)))
    (l_check_rows : K.lookup f_check_rows = some ⟨oc_check_rows, od_check_rows, .func (PySem.W.fnOf "check_rows" "check_rows" (defArgs s_check_rows) (defBody s_check_rows) (defScope s_check_rows) .none kV_check_rows dc_check_rows pm_check_rows an_check_rows cd_check_rows ct_check_rows), sl_check_rows⟩)
    (c_check_rows : PySem.W.codeIn K cd_check_rows "check_rows" = true)
    (p_check_rows : PySem.W.keepIn K (.ref f_check_rows) = true)
    (a_Places : PySem.W.nsIn K mainGlobals "Places" = some (some (.ref C_Places)))
    (a_Places___init__ : PySem.W.findIn K (.ref C_Places) "__init__" = some (some (.ref f_Places___init__)))
    (i_Places___init__ : PySem.W.isFn K (.ref f_Places___init__) = true)
    (l_Places___init__ : K.lookup f_Places___init__ = some ⟨oc_Places___init__, od_Places___init__, .func (PySem.W.fnOf "__init__" "Places.__init__" (defArgs s_Places___init__) (defBody s_Places___init__) (defScope s_Places___init__) .none kV_Places___init__ dc_Places___init__ pm_Places___init__ an_Places___init__ cd_Places___init__ ct_Places___init__), sl_Places___init__⟩)
    (c_Places___init__ : PySem.W.codeIn K cd_Places___init__ "Places.__init__" = true)
    (p_Places___init__ : PySem.W.keepIn K (.ref f_Places___init__) = true)
    (a_Places_head : PySem.W.findIn K (.ref C_Places) "head" = some (some (.ref f_Places_head)))
    (i_Places_head : PySem.W.isFn K (.ref f_Places_head) = true)
    (l_Places_head : K.lookup f_Places_head = some ⟨oc_Places_head, od_Places_head, .func (PySem.W.fnOf "head" "Places.head" (defArgs s_Places_head) (defBody s_Places_head) (defScope s_Places_head) .none kV_Places_head dc_Places_head pm_Places_head an_Places_head cd_Places_head ct_Places_head), sl_Places_head⟩)
    (c_Places_head : PySem.W.codeIn K cd_Places_head "Places.head" = true)
    (p_Places_head : PySem.W.keepIn K (.ref f_Places_head) = true)
    (a_Places_join : PySem.W.findIn K (.ref C_Places) "join" = some (some (.ref f_Places_join)))
    (i_Places_join : PySem.W.isFn K (.ref f_Places_join) = true)
    (l_Places_join : K.lookup f_Places_join = some ⟨oc_Places_join, od_Places_join, .func (PySem.W.fnOf "join" "Places.join" (defArgs s_Places_join) (defBody s_Places_join) (defScope s_Places_join) .none kV_Places_join dc_Places_join pm_Places_join an_Places_join cd_Places_join ct_Places_join), sl_Places_join⟩)
    (c_Places_join : PySem.W.codeIn K cd_Places_join "Places.join" = true)
    (p_Places_join : PySem.W.keepIn K (.ref f_Places_join) = true)
    (pg_Places : PySem.W.plainGet K C_Places Str.empty = true)
    (hd_Places : PySem.W.hasDictIn K C_Places = true)
    (po_Places : PySem.W.plainOver K C_Places = true)
    (sa_Places : PySem.W.findIn K (.ref C_Places) "__setattr__" = some (some (.builtin "object.__setattr__")))
    (mk_Places : PySem.W.makesIn K C_Places = true)
    (kc_Places : PySem.W.keepIn K (.ref C_Places) = true)
    (n_Places_heads : PySem.W.findIn K (.ref C_Places) "heads" = some none)
    (a_forward_ways : PySem.W.nsIn K mainGlobals "forward_ways" = some (some (.ref f_forward_ways)))
    (l_forward_ways : K.lookup f_forward_ways = some ⟨oc_forward_ways, od_forward_ways, .func (PySem.W.fnOf "forward_ways" "forward_ways" (defArgs s_forward_ways) (defBody s_forward_ways) (defScope s_forward_ways) .none kV_forward_ways dc_forward_ways pm_forward_ways an_forward_ways cd_forward_ways ct_forward_ways), sl_forward_ways⟩)
    (c_forward_ways : PySem.W.codeIn K cd_forward_ways "forward_ways" = true)
    (p_forward_ways : PySem.W.keepIn K (.ref f_forward_ways) = true)
    (a_join_once : PySem.W.nsIn K mainGlobals "join_once" = some (some (.ref f_join_once)))
    (l_join_once : K.lookup f_join_once = some ⟨oc_join_once, od_join_once, .func (PySem.W.fnOf "join_once" "join_once" (defArgs s_join_once) (defBody s_join_once) (defScope s_join_once) .none kV_join_once dc_join_once pm_join_once an_join_once cd_join_once ct_join_once), sl_join_once⟩)
    (c_join_once : PySem.W.codeIn K cd_join_once "join_once" = true)
    (p_join_once : PySem.W.keepIn K (.ref f_join_once) = true)
    (a_joined_places : PySem.W.nsIn K mainGlobals "joined_places" = some (some (.ref f_joined_places)))
    (l_joined_places : K.lookup f_joined_places = some ⟨oc_joined_places, od_joined_places, .func (PySem.W.fnOf "joined_places" "joined_places" (defArgs s_joined_places) (defBody s_joined_places) (defScope s_joined_places) .none kV_joined_places dc_joined_places pm_joined_places an_joined_places cd_joined_places ct_joined_places), sl_joined_places⟩)
    (c_joined_places : PySem.W.codeIn K cd_joined_places "joined_places" = true)
    (p_joined_places : PySem.W.keepIn K (.ref f_joined_places) = true)
    (a_head_ways : PySem.W.nsIn K mainGlobals "head_ways" = some (some (.ref f_head_ways)))
    (l_head_ways : K.lookup f_head_ways = some ⟨oc_head_ways, od_head_ways, .func (PySem.W.fnOf "head_ways" "head_ways" (defArgs s_head_ways) (defBody s_head_ways) (defScope s_head_ways) .none kV_head_ways dc_head_ways pm_head_ways an_head_ways cd_head_ways ct_head_ways), sl_head_ways⟩)
    (c_head_ways : PySem.W.codeIn K cd_head_ways "head_ways" = true)
    (p_head_ways : PySem.W.keepIn K (.ref f_head_ways) = true)
    (a_hanging : PySem.W.nsIn K mainGlobals "hanging" = some (some (.ref f_hanging)))
    (l_hanging : K.lookup f_hanging = some ⟨oc_hanging, od_hanging, .func (PySem.W.fnOf "hanging" "hanging" (defArgs s_hanging) (defBody s_hanging) (defScope s_hanging) .none kV_hanging dc_hanging pm_hanging an_hanging cd_hanging ct_hanging), sl_hanging⟩)
    (c_hanging : PySem.W.codeIn K cd_hanging "hanging" = true)
    (p_hanging : PySem.W.keepIn K (.ref f_hanging) = true)
    (a_is_tail : PySem.W.nsIn K mainGlobals "is_tail" = some (some (.ref f_is_tail)))
    (l_is_tail : K.lookup f_is_tail = some ⟨oc_is_tail, od_is_tail, .func (PySem.W.fnOf "is_tail" "is_tail" (defArgs s_is_tail) (defBody s_is_tail) (defScope s_is_tail) .none kV_is_tail dc_is_tail pm_is_tail an_is_tail cd_is_tail ct_is_tail), sl_is_tail⟩)
    (c_is_tail : PySem.W.codeIn K cd_is_tail "is_tail" = true)
    (p_is_tail : PySem.W.keepIn K (.ref f_is_tail) = true)
    (a_without_tails : PySem.W.nsIn K mainGlobals "without_tails" = some (some (.ref f_without_tails)))
    (l_without_tails : K.lookup f_without_tails = some ⟨oc_without_tails, od_without_tails, .func (PySem.W.fnOf "without_tails" "without_tails" (defArgs s_without_tails) (defBody s_without_tails) (defScope s_without_tails) .none kV_without_tails dc_without_tails pm_without_tails an_without_tails cd_without_tails ct_without_tails), sl_without_tails⟩)
    (c_without_tails : PySem.W.codeIn K cd_without_tails "without_tails" = true)
    (p_without_tails : PySem.W.keepIn K (.ref f_without_tails) = true)
    (a_steps_of : PySem.W.nsIn K mainGlobals "steps_of" = some (some (.ref f_steps_of)))
    (l_steps_of : K.lookup f_steps_of = some ⟨oc_steps_of, od_steps_of, .func (PySem.W.fnOf "steps_of" "steps_of" (defArgs s_steps_of) (defBody s_steps_of) (defScope s_steps_of) .none kV_steps_of dc_steps_of pm_steps_of an_steps_of cd_steps_of ct_steps_of), sl_steps_of⟩)
    (c_steps_of : PySem.W.codeIn K cd_steps_of "steps_of" = true)
    (p_steps_of : PySem.W.keepIn K (.ref f_steps_of) = true)
    (a_numbered : PySem.W.nsIn K mainGlobals "numbered" = some (some (.ref f_numbered)))
    (l_numbered : K.lookup f_numbered = some ⟨oc_numbered, od_numbered, .func (PySem.W.fnOf "numbered" "numbered" (defArgs s_numbered) (defBody s_numbered) (defScope s_numbered) .none kV_numbered dc_numbered pm_numbered an_numbered cd_numbered ct_numbered), sl_numbered⟩)
    (c_numbered : PySem.W.codeIn K cd_numbered "numbered" = true)
    (p_numbered : PySem.W.keepIn K (.ref f_numbered) = true)
    (a_trimmed : PySem.W.nsIn K mainGlobals "trimmed" = some (some (.ref f_trimmed)))
    (l_trimmed : K.lookup f_trimmed = some ⟨oc_trimmed, od_trimmed, .func (PySem.W.fnOf "trimmed" "trimmed" (defArgs s_trimmed) (defBody s_trimmed) (defScope s_trimmed) .none kV_trimmed dc_trimmed pm_trimmed an_trimmed cd_trimmed ct_trimmed), sl_trimmed⟩)
    (c_trimmed : PySem.W.codeIn K cd_trimmed "trimmed" = true)
    (p_trimmed : PySem.W.keepIn K (.ref f_trimmed) = true)
    (a_folded_ways : PySem.W.nsIn K mainGlobals "folded_ways" = some (some (.ref f_folded_ways)))
    (l_folded_ways : K.lookup f_folded_ways = some ⟨oc_folded_ways, od_folded_ways, .func (PySem.W.fnOf "folded_ways" "folded_ways" (defArgs s_folded_ways) (defBody s_folded_ways) (defScope s_folded_ways) .none kV_folded_ways dc_folded_ways pm_folded_ways an_folded_ways cd_folded_ways ct_folded_ways), sl_folded_ways⟩)
    (c_folded_ways : PySem.W.codeIn K cd_folded_ways "folded_ways" = true)
    (p_folded_ways : PySem.W.keepIn K (.ref f_folded_ways) = true)
    (a_chain : PySem.W.nsIn K mainGlobals "chain" = some (some (.ref f_chain)))
    (l_chain : K.lookup f_chain = some ⟨oc_chain, od_chain, .func (PySem.W.fnOf "chain" "chain" (defArgs s_chain) (defBody s_chain) (defScope s_chain) .none kV_chain dc_chain pm_chain an_chain cd_chain ct_chain), sl_chain⟩)
    (c_chain : PySem.W.codeIn K cd_chain "chain" = true)
    (p_chain : PySem.W.keepIn K (.ref f_chain) = true)
    (a_ring_end : PySem.W.nsIn K mainGlobals "ring_end" = some (some (.ref f_ring_end)))
    (l_ring_end : K.lookup f_ring_end = some ⟨oc_ring_end, od_ring_end, .func (PySem.W.fnOf "ring_end" "ring_end" (defArgs s_ring_end) (defBody s_ring_end) (defScope s_ring_end) .none kV_ring_end dc_ring_end pm_ring_end an_ring_end cd_ring_end ct_ring_end), sl_ring_end⟩)
    (c_ring_end : PySem.W.codeIn K cd_ring_end "ring_end" = true)
    (p_ring_end : PySem.W.keepIn K (.ref f_ring_end) = true)
    (a_filled : PySem.W.nsIn K mainGlobals "filled" = some (some (.ref f_filled)))
    (l_filled : K.lookup f_filled = some ⟨oc_filled, od_filled, .func (PySem.W.fnOf "filled" "filled" (defArgs s_filled) (defBody s_filled) (defScope s_filled) .none kV_filled dc_filled pm_filled an_filled cd_filled ct_filled), sl_filled⟩)
    (c_filled : PySem.W.codeIn K cd_filled "filled" = true)
    (p_filled : PySem.W.keepIn K (.ref f_filled) = true)
    (a_net_letters : PySem.W.nsIn K mainGlobals "net_letters" = some (some (.ref f_net_letters)))
    (l_net_letters : K.lookup f_net_letters = some ⟨oc_net_letters, od_net_letters, .func (PySem.W.fnOf "net_letters" "net_letters" (defArgs s_net_letters) (defBody s_net_letters) (defScope s_net_letters) .none kV_net_letters dc_net_letters pm_net_letters an_net_letters cd_net_letters ct_net_letters), sl_net_letters⟩)
    (c_net_letters : PySem.W.codeIn K cd_net_letters "net_letters" = true)
    (p_net_letters : PySem.W.keepIn K (.ref f_net_letters) = true)
    (a_turned_back : PySem.W.nsIn K mainGlobals "turned_back" = some (some (.ref f_turned_back)))
    (l_turned_back : K.lookup f_turned_back = some ⟨oc_turned_back, od_turned_back, .func (PySem.W.fnOf "turned_back" "turned_back" (defArgs s_turned_back) (defBody s_turned_back) (defScope s_turned_back) .none kV_turned_back dc_turned_back pm_turned_back an_turned_back cd_turned_back ct_turned_back), sl_turned_back⟩)
    (c_turned_back : PySem.W.codeIn K cd_turned_back "turned_back" = true)
    (p_turned_back : PySem.W.keepIn K (.ref f_turned_back) = true)
    (a_is_standing : PySem.W.nsIn K mainGlobals "is_standing" = some (some (.ref f_is_standing)))
    (l_is_standing : K.lookup f_is_standing = some ⟨oc_is_standing, od_is_standing, .func (PySem.W.fnOf "is_standing" "is_standing" (defArgs s_is_standing) (defBody s_is_standing) (defScope s_is_standing) .none kV_is_standing dc_is_standing pm_is_standing an_is_standing cd_is_standing ct_is_standing), sl_is_standing⟩)
    (c_is_standing : PySem.W.codeIn K cd_is_standing "is_standing" = true)
    (p_is_standing : PySem.W.keepIn K (.ref f_is_standing) = true)
    (a_is_move : PySem.W.nsIn K mainGlobals "is_move" = some (some (.ref f_is_move)))
    (l_is_move : K.lookup f_is_move = some ⟨oc_is_move, od_is_move, .func (PySem.W.fnOf "is_move" "is_move" (defArgs s_is_move) (defBody s_is_move) (defScope s_is_move) .none kV_is_move dc_is_move pm_is_move an_is_move cd_is_move ct_is_move), sl_is_move⟩)
    (c_is_move : PySem.W.codeIn K cd_is_move "is_move" = true)
    (p_is_move : PySem.W.keepIn K (.ref f_is_move) = true)
    (a_are_moves : PySem.W.nsIn K mainGlobals "are_moves" = some (some (.ref f_are_moves)))
    (l_are_moves : K.lookup f_are_moves = some ⟨oc_are_moves, od_are_moves, .func (PySem.W.fnOf "are_moves" "are_moves" (defArgs s_are_moves) (defBody s_are_moves) (defScope s_are_moves) .none kV_are_moves dc_are_moves pm_are_moves an_are_moves cd_are_moves ct_are_moves), sl_are_moves⟩)
    (c_are_moves : PySem.W.codeIn K cd_are_moves "are_moves" = true)
    (p_are_moves : PySem.W.keepIn K (.ref f_are_moves) = true)
    (a_all_moves : PySem.W.nsIn K mainGlobals "all_moves" = some (some (.ref f_all_moves)))
    (l_all_moves : K.lookup f_all_moves = some ⟨oc_all_moves, od_all_moves, .func (PySem.W.fnOf "all_moves" "all_moves" (defArgs s_all_moves) (defBody s_all_moves) (defScope s_all_moves) .none kV_all_moves dc_all_moves pm_all_moves an_all_moves cd_all_moves ct_all_moves), sl_all_moves⟩)
    (c_all_moves : PySem.W.codeIn K cd_all_moves "all_moves" = true)
    (p_all_moves : PySem.W.keepIn K (.ref f_all_moves) = true)
    (a_World : PySem.W.nsIn K mainGlobals "World" = some (some (.ref C_World)))
    (a_World___init__ : PySem.W.findIn K (.ref C_World) "__init__" = some (some (.ref f_World___init__)))
    (i_World___init__ : PySem.W.isFn K (.ref f_World___init__) = true)
    (l_World___init__ : K.lookup f_World___init__ = some ⟨oc_World___init__, od_World___init__, .func (PySem.W.fnOf "__init__" "World.__init__" (defArgs s_World___init__) (defBody s_World___init__) (defScope s_World___init__) .none kV_World___init__ dc_World___init__ pm_World___init__ an_World___init__ cd_World___init__ ct_World___init__), sl_World___init__⟩)
    (c_World___init__ : PySem.W.codeIn K cd_World___init__ "World.__init__" = true)
    (p_World___init__ : PySem.W.keepIn K (.ref f_World___init__) = true)
    (a_World_keep : PySem.W.findIn K (.ref C_World) "keep" = some (some (.ref f_World_keep)))
    (i_World_keep : PySem.W.isFn K (.ref f_World_keep) = true)
    (l_World_keep : K.lookup f_World_keep = some ⟨oc_World_keep, od_World_keep, .func (PySem.W.fnOf "keep" "World.keep" (defArgs s_World_keep) (defBody s_World_keep) (defScope s_World_keep) .none kV_World_keep dc_World_keep pm_World_keep an_World_keep cd_World_keep ct_World_keep), sl_World_keep⟩)
    (c_World_keep : PySem.W.codeIn K cd_World_keep "World.keep" = true)
    (p_World_keep : PySem.W.keepIn K (.ref f_World_keep) = true)
    (a_World___eq__ : PySem.W.findIn K (.ref C_World) "__eq__" = some (some (.ref f_World___eq__)))
    (i_World___eq__ : PySem.W.isFn K (.ref f_World___eq__) = true)
    (l_World___eq__ : K.lookup f_World___eq__ = some ⟨oc_World___eq__, od_World___eq__, .func (PySem.W.fnOf "__eq__" "World.__eq__" (defArgs s_World___eq__) (defBody s_World___eq__) (defScope s_World___eq__) .none kV_World___eq__ dc_World___eq__ pm_World___eq__ an_World___eq__ cd_World___eq__ ct_World___eq__), sl_World___eq__⟩)
    (c_World___eq__ : PySem.W.codeIn K cd_World___eq__ "World.__eq__" = true)
    (p_World___eq__ : PySem.W.keepIn K (.ref f_World___eq__) = true)
    (b_World_moves : PySem.W.findIn K (.ref C_World) "moves" = some (some (.ref pp_World_moves)))
    (g_World_moves : PySem.W.specialIn K (.ref pp_World_moves) "__get__" = some (some (.builtin "property.__get__")))
    (t_World_moves : PySem.W.takesIn K (.ref pp_World_moves) = some true)
    (r_World_moves : PySem.W.recIn K pp_World_moves "property" = some (.ref f_World_moves :: pr_World_moves))
    (l_World_moves : K.lookup f_World_moves = some ⟨oc_World_moves, od_World_moves, .func (PySem.W.fnOf "moves" "World.moves" (defArgs s_World_moves) (defBody s_World_moves) (defScope s_World_moves) .none kV_World_moves dc_World_moves pm_World_moves an_World_moves cd_World_moves ct_World_moves), sl_World_moves⟩)
    (c_World_moves : PySem.W.codeIn K cd_World_moves "World.moves" = true)
    (p_World_moves : PySem.W.keepIn K (.ref f_World_moves) = true)
    (pg_World : PySem.W.plainGet K C_World Str.empty = true)
    (hd_World : PySem.W.hasDictIn K C_World = true)
    (po_World : PySem.W.plainOver K C_World = true)
    (sa_World : PySem.W.findIn K (.ref C_World) "__setattr__" = some (some (.builtin "object.__setattr__")))
    (mk_World : PySem.W.makesIn K C_World = true)
    (kc_World : PySem.W.keepIn K (.ref C_World) = true)
    (ha_World : PySem.W.findIn K (.ref C_World) "__class__" = some (some (.builtin "object.__class__")))
    (hm_World : PySem.W.mroIn K C_World (.type "object") = some true)
    (n_World_deeds : PySem.W.findIn K (.ref C_World) "deeds" = some none)
    (n_World_size : PySem.W.findIn K (.ref C_World) "size" = some none)
    (n_World_kept_moves : PySem.W.findIn K (.ref C_World) "kept_moves" = some none)
    (n_World_kept_backs : PySem.W.findIn K (.ref C_World) "kept_backs" = some none)
    (a_RawWorld : PySem.W.nsIn K mainGlobals "RawWorld" = some (some (.ref C_RawWorld)))
    (a_RawWorld___init__ : PySem.W.findIn K (.ref C_RawWorld) "__init__" = some (some (.ref f_RawWorld___init__)))
    (i_RawWorld___init__ : PySem.W.isFn K (.ref f_RawWorld___init__) = true)
    (l_RawWorld___init__ : K.lookup f_RawWorld___init__ = some ⟨oc_RawWorld___init__, od_RawWorld___init__, .func (PySem.W.fnOf "__init__" "RawWorld.__init__" (defArgs s_RawWorld___init__) (defBody s_RawWorld___init__) (defScope s_RawWorld___init__) .none kV_RawWorld___init__ dc_RawWorld___init__ pm_RawWorld___init__ an_RawWorld___init__ cd_RawWorld___init__ ct_RawWorld___init__), sl_RawWorld___init__⟩)
    (c_RawWorld___init__ : PySem.W.codeIn K cd_RawWorld___init__ "RawWorld.__init__" = true)
    (p_RawWorld___init__ : PySem.W.keepIn K (.ref f_RawWorld___init__) = true)
    (v_RawWorld_keep : PySem.W.findIn K (.ref C_RawWorld) "keep" = some (some (.ref f_World_keep)))
    (v_RawWorld___eq__ : PySem.W.findIn K (.ref C_RawWorld) "__eq__" = some (some (.ref f_World___eq__)))
    (v_RawWorld_moves : PySem.W.findIn K (.ref C_RawWorld) "moves" = some (some (.ref pp_World_moves)))
    (ja_RawWorld_World : PySem.W.findIn K (.ref C_RawWorld) "__class__" = some (some (.builtin "object.__class__")))
    (jm_RawWorld_World : PySem.W.mroIn K C_RawWorld (.type "object") = some true)
    (je_RawWorld_World : PySem.W.kitOne K (.ref C_RawWorld) (.ref C_World) = some true)
    (pg_RawWorld : PySem.W.plainGet K C_RawWorld Str.empty = true)
    (hd_RawWorld : PySem.W.hasDictIn K C_RawWorld = true)
    (po_RawWorld : PySem.W.plainOver K C_RawWorld = true)
    (sa_RawWorld : PySem.W.findIn K (.ref C_RawWorld) "__setattr__" = some (some (.builtin "object.__setattr__")))
    (mk_RawWorld : PySem.W.makesIn K C_RawWorld = true)
    (kc_RawWorld : PySem.W.keepIn K (.ref C_RawWorld) = true)
    (n_RawWorld_deeds : PySem.W.findIn K (.ref C_RawWorld) "deeds" = some none)
    (n_RawWorld_size : PySem.W.findIn K (.ref C_RawWorld) "size" = some none)
    (n_RawWorld_kept_moves : PySem.W.findIn K (.ref C_RawWorld) "kept_moves" = some none)
    (n_RawWorld_kept_backs : PySem.W.findIn K (.ref C_RawWorld) "kept_backs" = some none)
    (a_check_standing : PySem.W.nsIn K mainGlobals "check_standing" = some (some (.ref f_check_standing)))
    (l_check_standing : K.lookup f_check_standing = some ⟨oc_check_standing, od_check_standing, .func (PySem.W.fnOf "check_standing" "check_standing" (defArgs s_check_standing) (defBody s_check_standing) (defScope s_check_standing) .none kV_check_standing dc_check_standing pm_check_standing an_check_standing cd_check_standing ct_check_standing), sl_check_standing⟩)
    (c_check_standing : PySem.W.codeIn K cd_check_standing "check_standing" = true)
    (p_check_standing : PySem.W.keepIn K (.ref f_check_standing) = true)
    (a_led : PySem.W.nsIn K mainGlobals "led" = some (some (.ref f_led)))
    (l_led : K.lookup f_led = some ⟨oc_led, od_led, .func (PySem.W.fnOf "led" "led" (defArgs s_led) (defBody s_led) (defScope s_led) .none kV_led dc_led pm_led an_led cd_led ct_led), sl_led⟩)
    (c_led : PySem.W.codeIn K cd_led "led" = true)
    (p_led : PySem.W.keepIn K (.ref f_led) = true)
    (a_Web : PySem.W.nsIn K mainGlobals "Web" = some (some (.ref C_Web)))
    (a_Web___init__ : PySem.W.findIn K (.ref C_Web) "__init__" = some (some (.ref f_Web___init__)))
    (i_Web___init__ : PySem.W.isFn K (.ref f_Web___init__) = true)
    (l_Web___init__ : K.lookup f_Web___init__ = some ⟨oc_Web___init__, od_Web___init__, .func (PySem.W.fnOf "__init__" "Web.__init__" (defArgs s_Web___init__) (defBody s_Web___init__) (defScope s_Web___init__) .none kV_Web___init__ dc_Web___init__ pm_Web___init__ an_Web___init__ cd_Web___init__ ct_Web___init__), sl_Web___init__⟩)
    (c_Web___init__ : PySem.W.codeIn K cd_Web___init__ "Web.__init__" = true)
    (p_Web___init__ : PySem.W.keepIn K (.ref f_Web___init__) = true)
    (a_Web___eq__ : PySem.W.findIn K (.ref C_Web) "__eq__" = some (some (.ref f_Web___eq__)))
    (i_Web___eq__ : PySem.W.isFn K (.ref f_Web___eq__) = true)
    (l_Web___eq__ : K.lookup f_Web___eq__ = some ⟨oc_Web___eq__, od_Web___eq__, .func (PySem.W.fnOf "__eq__" "Web.__eq__" (defArgs s_Web___eq__) (defBody s_Web___eq__) (defScope s_Web___eq__) .none kV_Web___eq__ dc_Web___eq__ pm_Web___eq__ an_Web___eq__ cd_Web___eq__ ct_Web___eq__), sl_Web___eq__⟩)
    (c_Web___eq__ : PySem.W.codeIn K cd_Web___eq__ "Web.__eq__" = true)
    (p_Web___eq__ : PySem.W.keepIn K (.ref f_Web___eq__) = true)
    (pg_Web : PySem.W.plainGet K C_Web Str.empty = true)
    (hd_Web : PySem.W.hasDictIn K C_Web = true)
    (po_Web : PySem.W.plainOver K C_Web = true)
    (sa_Web : PySem.W.findIn K (.ref C_Web) "__setattr__" = some (some (.builtin "object.__setattr__")))
    (mk_Web : PySem.W.makesIn K C_Web = true)
    (kc_Web : PySem.W.keepIn K (.ref C_Web) = true)
    (ha_Web : PySem.W.findIn K (.ref C_Web) "__class__" = some (some (.builtin "object.__class__")))
    (hm_Web : PySem.W.mroIn K C_Web (.type "object") = some true)
    (n_Web_deeds : PySem.W.findIn K (.ref C_Web) "deeds" = some none)
    (n_Web_size : PySem.W.findIn K (.ref C_Web) "size" = some none)
    (n_Web_ways : PySem.W.findIn K (.ref C_Web) "ways" = some none)
    (n_Web_kept_deeds : PySem.W.findIn K (.ref C_Web) "kept_deeds" = some none)
    (n_Web_kept_size : PySem.W.findIn K (.ref C_Web) "kept_size" = some none)
    (n_Web_kept_ways : PySem.W.findIn K (.ref C_Web) "kept_ways" = some none)
    (n_Web_kept_steps : PySem.W.findIn K (.ref C_Web) "kept_steps" = some none)
    (a_folded : PySem.W.nsIn K mainGlobals "folded" = some (some (.ref f_folded)))
    (l_folded : K.lookup f_folded = some ⟨oc_folded, od_folded, .func (PySem.W.fnOf "folded" "folded" (defArgs s_folded) (defBody s_folded) (defScope s_folded) .none kV_folded dc_folded pm_folded an_folded cd_folded ct_folded), sl_folded⟩)
    (c_folded : PySem.W.codeIn K cd_folded "folded" = true)
    (p_folded : PySem.W.keepIn K (.ref f_folded) = true)
    (a_check_makers : PySem.W.nsIn K mainGlobals "check_makers" = some (some (.ref f_check_makers)))
    (l_check_makers : K.lookup f_check_makers = some ⟨oc_check_makers, od_check_makers, .func (PySem.W.fnOf "check_makers" "check_makers" (defArgs s_check_makers) (defBody s_check_makers) (defScope s_check_makers) .none kV_check_makers dc_check_makers pm_check_makers an_check_makers cd_check_makers ct_check_makers), sl_check_makers⟩)
    (c_check_makers : PySem.W.codeIn K cd_check_makers "check_makers" = true)
    (p_check_makers : PySem.W.keepIn K (.ref f_check_makers) = true)
    (a_made_web : PySem.W.nsIn K mainGlobals "made_web" = some (some (.ref f_made_web)))
    (l_made_web : K.lookup f_made_web = some ⟨oc_made_web, od_made_web, .func (PySem.W.fnOf "made_web" "made_web" (defArgs s_made_web) (defBody s_made_web) (defScope s_made_web) .none kV_made_web dc_made_web pm_made_web an_made_web cd_made_web ct_made_web), sl_made_web⟩)
    (c_made_web : PySem.W.codeIn K cd_made_web "made_web" = true)
    (p_made_web : PySem.W.keepIn K (.ref f_made_web) = true)
    (a_Grown : PySem.W.nsIn K mainGlobals "Grown" = some (some (.ref C_Grown)))
    (a_Grown___init__ : PySem.W.findIn K (.ref C_Grown) "__init__" = some (some (.ref f_Grown___init__)))
    (i_Grown___init__ : PySem.W.isFn K (.ref f_Grown___init__) = true)
    (l_Grown___init__ : K.lookup f_Grown___init__ = some ⟨oc_Grown___init__, od_Grown___init__, .func (PySem.W.fnOf "__init__" "Grown.__init__" (defArgs s_Grown___init__) (defBody s_Grown___init__) (defScope s_Grown___init__) .none kV_Grown___init__ dc_Grown___init__ pm_Grown___init__ an_Grown___init__ cd_Grown___init__ ct_Grown___init__), sl_Grown___init__⟩)
    (c_Grown___init__ : PySem.W.codeIn K cd_Grown___init__ "Grown.__init__" = true)
    (p_Grown___init__ : PySem.W.keepIn K (.ref f_Grown___init__) = true)
    (a_Grown_go : PySem.W.findIn K (.ref C_Grown) "go" = some (some (.ref f_Grown_go)))
    (i_Grown_go : PySem.W.isFn K (.ref f_Grown_go) = true)
    (l_Grown_go : K.lookup f_Grown_go = some ⟨oc_Grown_go, od_Grown_go, .func (PySem.W.fnOf "go" "Grown.go" (defArgs s_Grown_go) (defBody s_Grown_go) (defScope s_Grown_go) .none kV_Grown_go dc_Grown_go pm_Grown_go an_Grown_go cd_Grown_go ct_Grown_go), sl_Grown_go⟩)
    (c_Grown_go : PySem.W.codeIn K cd_Grown_go "Grown.go" = true)
    (p_Grown_go : PySem.W.keepIn K (.ref f_Grown_go) = true)
    (a_Grown_lead : PySem.W.findIn K (.ref C_Grown) "lead" = some (some (.ref f_Grown_lead)))
    (i_Grown_lead : PySem.W.isFn K (.ref f_Grown_lead) = true)
    (l_Grown_lead : K.lookup f_Grown_lead = some ⟨oc_Grown_lead, od_Grown_lead, .func (PySem.W.fnOf "lead" "Grown.lead" (defArgs s_Grown_lead) (defBody s_Grown_lead) (defScope s_Grown_lead) .none kV_Grown_lead dc_Grown_lead pm_Grown_lead an_Grown_lead cd_Grown_lead ct_Grown_lead), sl_Grown_lead⟩)
    (c_Grown_lead : PySem.W.codeIn K cd_Grown_lead "Grown.lead" = true)
    (p_Grown_lead : PySem.W.keepIn K (.ref f_Grown_lead) = true)
    (pg_Grown : PySem.W.plainGet K C_Grown Str.empty = true)
    (hd_Grown : PySem.W.hasDictIn K C_Grown = true)
    (po_Grown : PySem.W.plainOver K C_Grown = true)
    (sa_Grown : PySem.W.findIn K (.ref C_Grown) "__setattr__" = some (some (.builtin "object.__setattr__")))
    (mk_Grown : PySem.W.makesIn K C_Grown = true)
    (kc_Grown : PySem.W.keepIn K (.ref C_Grown) = true)
    (n_Grown_size : PySem.W.findIn K (.ref C_Grown) "size" = some none)
    (n_Grown_ways : PySem.W.findIn K (.ref C_Grown) "ways" = some none)
    (n_Grown_goals : PySem.W.findIn K (.ref C_Grown) "goals" = some none)
    (a_check_home : PySem.W.nsIn K mainGlobals "check_home" = some (some (.ref f_check_home)))
    (l_check_home : K.lookup f_check_home = some ⟨oc_check_home, od_check_home, .func (PySem.W.fnOf "check_home" "check_home" (defArgs s_check_home) (defBody s_check_home) (defScope s_check_home) .none kV_check_home dc_check_home pm_check_home an_check_home cd_check_home ct_check_home), sl_check_home⟩)
    (c_check_home : PySem.W.codeIn K cd_check_home "check_home" = true)
    (p_check_home : PySem.W.keepIn K (.ref f_check_home) = true)
    (a_made_home : PySem.W.nsIn K mainGlobals "made_home" = some (some (.ref f_made_home)))
    (l_made_home : K.lookup f_made_home = some ⟨oc_made_home, od_made_home, .func (PySem.W.fnOf "made_home" "made_home" (defArgs s_made_home) (defBody s_made_home) (defScope s_made_home) .none kV_made_home dc_made_home pm_made_home an_made_home cd_made_home ct_made_home), sl_made_home⟩)
    (c_made_home : PySem.W.codeIn K cd_made_home "made_home" = true)
    (p_made_home : PySem.W.keepIn K (.ref f_made_home) = true)
    (a_home : PySem.W.nsIn K mainGlobals "home" = some (some (.ref f_home)))
    (l_home : K.lookup f_home = some ⟨oc_home, od_home, .func (PySem.W.fnOf "home" "home" (defArgs s_home) (defBody s_home) (defScope s_home) .none kV_home dc_home pm_home an_home cd_home ct_home), sl_home⟩)
    (c_home : PySem.W.codeIn K cd_home "home" = true)
    (p_home : PySem.W.keepIn K (.ref f_home) = true)
    (a_leads_home : PySem.W.nsIn K mainGlobals "leads_home" = some (some (.ref f_leads_home)))
    (l_leads_home : K.lookup f_leads_home = some ⟨oc_leads_home, od_leads_home, .func (PySem.W.fnOf "leads_home" "leads_home" (defArgs s_leads_home) (defBody s_leads_home) (defScope s_leads_home) .none kV_leads_home dc_leads_home pm_leads_home an_leads_home cd_leads_home ct_leads_home), sl_leads_home⟩)
    (c_leads_home : PySem.W.codeIn K cd_leads_home "leads_home" = true)
    (p_leads_home : PySem.W.keepIn K (.ref f_leads_home) = true)
    (a_is_home : PySem.W.nsIn K mainGlobals "is_home" = some (some (.ref f_is_home)))
    (l_is_home : K.lookup f_is_home = some ⟨oc_is_home, od_is_home, .func (PySem.W.fnOf "is_home" "is_home" (defArgs s_is_home) (defBody s_is_home) (defScope s_is_home) .none kV_is_home dc_is_home pm_is_home an_is_home cd_is_home ct_is_home), sl_is_home⟩)
    (c_is_home : PySem.W.codeIn K cd_is_home "is_home" = true)
    (p_is_home : PySem.W.keepIn K (.ref f_is_home) = true)
    (a__law_pool : PySem.W.nsIn K mainGlobals "_law_pool" = some (some (.ref f__law_pool)))
    (l__law_pool : K.lookup f__law_pool = some ⟨oc__law_pool, od__law_pool, .func (PySem.W.fnOf "_law_pool" "_law_pool" (defArgs s__law_pool) (defBody s__law_pool) (defScope s__law_pool) .none kV__law_pool dc__law_pool pm__law_pool an__law_pool cd__law_pool ct__law_pool), sl__law_pool⟩)
    (c__law_pool : PySem.W.codeIn K cd__law_pool "_law_pool" = true)
    (p__law_pool : PySem.W.keepIn K (.ref f__law_pool) = true)
    (a__law_draw : PySem.W.nsIn K mainGlobals "_law_draw" = some (some (.ref f__law_draw)))
    (l__law_draw : K.lookup f__law_draw = some ⟨oc__law_draw, od__law_draw, .func (PySem.W.fnOf "_law_draw" "_law_draw" (defArgs s__law_draw) (defBody s__law_draw) (defScope s__law_draw) .none kV__law_draw dc__law_draw pm__law_draw an__law_draw cd__law_draw ct__law_draw), sl__law_draw⟩)
    (c__law_draw : PySem.W.codeIn K cd__law_draw "_law_draw" = true)
    (p__law_draw : PySem.W.keepIn K (.ref f__law_draw) = true)
    (a__law_deeds : PySem.W.nsIn K mainGlobals "_law_deeds" = some (some (.ref f__law_deeds)))
    (l__law_deeds : K.lookup f__law_deeds = some ⟨oc__law_deeds, od__law_deeds, .func (PySem.W.fnOf "_law_deeds" "_law_deeds" (defArgs s__law_deeds) (defBody s__law_deeds) (defScope s__law_deeds) .none kV__law_deeds dc__law_deeds pm__law_deeds an__law_deeds cd__law_deeds ct__law_deeds), sl__law_deeds⟩)
    (c__law_deeds : PySem.W.codeIn K cd__law_deeds "_law_deeds" = true)
    (p__law_deeds : PySem.W.keepIn K (.ref f__law_deeds) = true)
    (a__law_letters : PySem.W.nsIn K mainGlobals "_law_letters" = some (some (.ref f__law_letters)))
    (l__law_letters : K.lookup f__law_letters = some ⟨oc__law_letters, od__law_letters, .func (PySem.W.fnOf "_law_letters" "_law_letters" (defArgs s__law_letters) (defBody s__law_letters) (defScope s__law_letters) .none kV__law_letters dc__law_letters pm__law_letters an__law_letters cd__law_letters ct__law_letters), sl__law_letters⟩)
    (c__law_letters : PySem.W.codeIn K cd__law_letters "_law_letters" = true)
    (p__law_letters : PySem.W.keepIn K (.ref f__law_letters) = true)
    (a__law_flip : PySem.W.nsIn K mainGlobals "_law_flip" = some (some (.ref f__law_flip)))
    (l__law_flip : K.lookup f__law_flip = some ⟨oc__law_flip, od__law_flip, .func (PySem.W.fnOf "_law_flip" "_law_flip" (defArgs s__law_flip) (defBody s__law_flip) (defScope s__law_flip) .none kV__law_flip dc__law_flip pm__law_flip an__law_flip cd__law_flip ct__law_flip), sl__law_flip⟩)
    (c__law_flip : PySem.W.codeIn K cd__law_flip "_law_flip" = true)
    (p__law_flip : PySem.W.keepIn K (.ref f__law_flip) = true)
    (a__law_net : PySem.W.nsIn K mainGlobals "_law_net" = some (some (.ref f__law_net)))
    (l__law_net : K.lookup f__law_net = some ⟨oc__law_net, od__law_net, .func (PySem.W.fnOf "_law_net" "_law_net" (defArgs s__law_net) (defBody s__law_net) (defScope s__law_net) .none kV__law_net dc__law_net pm__law_net an__law_net cd__law_net ct__law_net), sl__law_net⟩)
    (c__law_net : PySem.W.codeIn K cd__law_net "_law_net" = true)
    (p__law_net : PySem.W.keepIn K (.ref f__law_net) = true)
    (a__law_undone : PySem.W.nsIn K mainGlobals "_law_undone" = some (some (.ref f__law_undone)))
    (l__law_undone : K.lookup f__law_undone = some ⟨oc__law_undone, od__law_undone, .func (PySem.W.fnOf "_law_undone" "_law_undone" (defArgs s__law_undone) (defBody s__law_undone) (defScope s__law_undone) .none kV__law_undone dc__law_undone pm__law_undone an__law_undone cd__law_undone ct__law_undone), sl__law_undone⟩)
    (c__law_undone : PySem.W.codeIn K cd__law_undone "_law_undone" = true)
    (p__law_undone : PySem.W.keepIn K (.ref f__law_undone) = true)
    (a__law_word : PySem.W.nsIn K mainGlobals "_law_word" = some (some (.ref f__law_word)))
    (l__law_word : K.lookup f__law_word = some ⟨oc__law_word, od__law_word, .func (PySem.W.fnOf "_law_word" "_law_word" (defArgs s__law_word) (defBody s__law_word) (defScope s__law_word) .none kV__law_word dc__law_word pm__law_word an__law_word cd__law_word ct__law_word), sl__law_word⟩)
    (c__law_word : PySem.W.codeIn K cd__law_word "_law_word" = true)
    (p__law_word : PySem.W.keepIn K (.ref f__law_word) = true)
    (a__law_rows : PySem.W.nsIn K mainGlobals "_law_rows" = some (some (.ref f__law_rows)))
    (l__law_rows : K.lookup f__law_rows = some ⟨oc__law_rows, od__law_rows, .func (PySem.W.fnOf "_law_rows" "_law_rows" (defArgs s__law_rows) (defBody s__law_rows) (defScope s__law_rows) .none kV__law_rows dc__law_rows pm__law_rows an__law_rows cd__law_rows ct__law_rows), sl__law_rows⟩)
    (c__law_rows : PySem.W.codeIn K cd__law_rows "_law_rows" = true)
    (p__law_rows : PySem.W.keepIn K (.ref f__law_rows) = true)
    (a__law_listed : PySem.W.nsIn K mainGlobals "_law_listed" = some (some (.ref f__law_listed)))
    (l__law_listed : K.lookup f__law_listed = some ⟨oc__law_listed, od__law_listed, .func (PySem.W.fnOf "_law_listed" "_law_listed" (defArgs s__law_listed) (defBody s__law_listed) (defScope s__law_listed) .none kV__law_listed dc__law_listed pm__law_listed an__law_listed cd__law_listed ct__law_listed), sl__law_listed⟩)
    (c__law_listed : PySem.W.codeIn K cd__law_listed "_law_listed" = true)
    (p__law_listed : PySem.W.keepIn K (.ref f__law_listed) = true)
    (a__law_laid : PySem.W.nsIn K mainGlobals "_law_laid" = some (some (.ref f__law_laid)))
    (l__law_laid : K.lookup f__law_laid = some ⟨oc__law_laid, od__law_laid, .func (PySem.W.fnOf "_law_laid" "_law_laid" (defArgs s__law_laid) (defBody s__law_laid) (defScope s__law_laid) .none kV__law_laid dc__law_laid pm__law_laid an__law_laid cd__law_laid ct__law_laid), sl__law_laid⟩)
    (c__law_laid : PySem.W.codeIn K cd__law_laid "_law_laid" = true)
    (p__law_laid : PySem.W.keepIn K (.ref f__law_laid) = true)
    (a__law_clash : PySem.W.nsIn K mainGlobals "_law_clash" = some (some (.ref f__law_clash)))
    (l__law_clash : K.lookup f__law_clash = some ⟨oc__law_clash, od__law_clash, .func (PySem.W.fnOf "_law_clash" "_law_clash" (defArgs s__law_clash) (defBody s__law_clash) (defScope s__law_clash) .none kV__law_clash dc__law_clash pm__law_clash an__law_clash cd__law_clash ct__law_clash), sl__law_clash⟩)
    (c__law_clash : PySem.W.codeIn K cd__law_clash "_law_clash" = true)
    (p__law_clash : PySem.W.keepIn K (.ref f__law_clash) = true)
    (a__law_folded : PySem.W.nsIn K mainGlobals "_law_folded" = some (some (.ref f__law_folded)))
    (l__law_folded : K.lookup f__law_folded = some ⟨oc__law_folded, od__law_folded, .func (PySem.W.fnOf "_law_folded" "_law_folded" (defArgs s__law_folded) (defBody s__law_folded) (defScope s__law_folded) .none kV__law_folded dc__law_folded pm__law_folded an__law_folded cd__law_folded ct__law_folded), sl__law_folded⟩)
    (c__law_folded : PySem.W.codeIn K cd__law_folded "_law_folded" = true)
    (p__law_folded : PySem.W.keepIn K (.ref f__law_folded) = true)
    (a__law_trimmed : PySem.W.nsIn K mainGlobals "_law_trimmed" = some (some (.ref f__law_trimmed)))
    (l__law_trimmed : K.lookup f__law_trimmed = some ⟨oc__law_trimmed, od__law_trimmed, .func (PySem.W.fnOf "_law_trimmed" "_law_trimmed" (defArgs s__law_trimmed) (defBody s__law_trimmed) (defScope s__law_trimmed) .none kV__law_trimmed dc__law_trimmed pm__law_trimmed an__law_trimmed cd__law_trimmed ct__law_trimmed), sl__law_trimmed⟩)
    (c__law_trimmed : PySem.W.codeIn K cd__law_trimmed "_law_trimmed" = true)
    (p__law_trimmed : PySem.W.keepIn K (.ref f__law_trimmed) = true)
    (a__law_steps : PySem.W.nsIn K mainGlobals "_law_steps" = some (some (.ref f__law_steps)))
    (l__law_steps : K.lookup f__law_steps = some ⟨oc__law_steps, od__law_steps, .func (PySem.W.fnOf "_law_steps" "_law_steps" (defArgs s__law_steps) (defBody s__law_steps) (defScope s__law_steps) .none kV__law_steps dc__law_steps pm__law_steps an__law_steps cd__law_steps ct__law_steps), sl__law_steps⟩)
    (c__law_steps : PySem.W.codeIn K cd__law_steps "_law_steps" = true)
    (p__law_steps : PySem.W.keepIn K (.ref f__law_steps) = true)
    (a__law_numbered : PySem.W.nsIn K mainGlobals "_law_numbered" = some (some (.ref f__law_numbered)))
    (l__law_numbered : K.lookup f__law_numbered = some ⟨oc__law_numbered, od__law_numbered, .func (PySem.W.fnOf "_law_numbered" "_law_numbered" (defArgs s__law_numbered) (defBody s__law_numbered) (defScope s__law_numbered) .none kV__law_numbered dc__law_numbered pm__law_numbered an__law_numbered cd__law_numbered ct__law_numbered), sl__law_numbered⟩)
    (c__law_numbered : PySem.W.codeIn K cd__law_numbered "_law_numbered" = true)
    (p__law_numbered : PySem.W.keepIn K (.ref f__law_numbered) = true)
    (a__law_web : PySem.W.nsIn K mainGlobals "_law_web" = some (some (.ref f__law_web)))
    (l__law_web : K.lookup f__law_web = some ⟨oc__law_web, od__law_web, .func (PySem.W.fnOf "_law_web" "_law_web" (defArgs s__law_web) (defBody s__law_web) (defScope s__law_web) .none kV__law_web dc__law_web pm__law_web an__law_web cd__law_web ct__law_web), sl__law_web⟩)
    (c__law_web : PySem.W.codeIn K cd__law_web "_law_web" = true)
    (p__law_web : PySem.W.keepIn K (.ref f__law_web) = true)
    (a__law_lead : PySem.W.nsIn K mainGlobals "_law_lead" = some (some (.ref f__law_lead)))
    (l__law_lead : K.lookup f__law_lead = some ⟨oc__law_lead, od__law_lead, .func (PySem.W.fnOf "_law_lead" "_law_lead" (defArgs s__law_lead) (defBody s__law_lead) (defScope s__law_lead) .none kV__law_lead dc__law_lead pm__law_lead an__law_lead cd__law_lead ct__law_lead), sl__law_lead⟩)
    (c__law_lead : PySem.W.codeIn K cd__law_lead "_law_lead" = true)
    (p__law_lead : PySem.W.keepIn K (.ref f__law_lead) = true)
    (a__law_product : PySem.W.nsIn K mainGlobals "_law_product" = some (some (.ref f__law_product)))
    (l__law_product : K.lookup f__law_product = some ⟨oc__law_product, od__law_product, .func (PySem.W.fnOf "_law_product" "_law_product" (defArgs s__law_product) (defBody s__law_product) (defScope s__law_product) .none kV__law_product dc__law_product pm__law_product an__law_product cd__law_product ct__law_product), sl__law_product⟩)
    (c__law_product : PySem.W.codeIn K cd__law_product "_law_product" = true)
    (p__law_product : PySem.W.keepIn K (.ref f__law_product) = true)
    (a__law_led : PySem.W.nsIn K mainGlobals "_law_led" = some (some (.ref f__law_led)))
    (l__law_led : K.lookup f__law_led = some ⟨oc__law_led, od__law_led, .func (PySem.W.fnOf "_law_led" "_law_led" (defArgs s__law_led) (defBody s__law_led) (defScope s__law_led) .none kV__law_led dc__law_led pm__law_led an__law_led cd__law_led ct__law_led), sl__law_led⟩)
    (c__law_led : PySem.W.codeIn K cd__law_led "_law_led" = true)
    (p__law_led : PySem.W.keepIn K (.ref f__law_led) = true)
    (a__law_is_home : PySem.W.nsIn K mainGlobals "_law_is_home" = some (some (.ref f__law_is_home)))
    (l__law_is_home : K.lookup f__law_is_home = some ⟨oc__law_is_home, od__law_is_home, .func (PySem.W.fnOf "_law_is_home" "_law_is_home" (defArgs s__law_is_home) (defBody s__law_is_home) (defScope s__law_is_home) .none kV__law_is_home dc__law_is_home pm__law_is_home an__law_is_home cd__law_is_home ct__law_is_home), sl__law_is_home⟩)
    (c__law_is_home : PySem.W.codeIn K cd__law_is_home "_law_is_home" = true)
    (p__law_is_home : PySem.W.keepIn K (.ref f__law_is_home) = true)
    (a__law_denied : PySem.W.nsIn K mainGlobals "_law_denied" = some (some (.ref f__law_denied)))
    (l__law_denied : K.lookup f__law_denied = some ⟨oc__law_denied, od__law_denied, .func (PySem.W.fnOf "_law_denied" "_law_denied" (defArgs s__law_denied) (defBody s__law_denied) (defScope s__law_denied) .none kV__law_denied dc__law_denied pm__law_denied an__law_denied cd__law_denied ct__law_denied), sl__law_denied⟩)
    (c__law_denied : PySem.W.codeIn K cd__law_denied "_law_denied" = true)
    (p__law_denied : PySem.W.keepIn K (.ref f__law_denied) = true)
    (a__law_fits : PySem.W.nsIn K mainGlobals "_law_fits" = some (some (.ref f__law_fits)))
    (l__law_fits : K.lookup f__law_fits = some ⟨oc__law_fits, od__law_fits, .func (PySem.W.fnOf "_law_fits" "_law_fits" (defArgs s__law_fits) (defBody s__law_fits) (defScope s__law_fits) .none kV__law_fits dc__law_fits pm__law_fits an__law_fits cd__law_fits ct__law_fits), sl__law_fits⟩)
    (c__law_fits : PySem.W.codeIn K cd__law_fits "_law_fits" = true)
    (p__law_fits : PySem.W.keepIn K (.ref f__law_fits) = true)
    (a_law : PySem.W.nsIn K mainGlobals "law" = some (some (.ref f_law)))
    (l_law : K.lookup f_law = some ⟨oc_law, od_law, .func (PySem.W.fnOf "law" "law" (defArgs s_law) (defBody s_law) (defScope s_law) .none kV_law dc_law pm_law an_law cd_law ct_law), sl_law⟩)
    (c_law : PySem.W.codeIn K cd_law "law" = true)
    (p_law : PySem.W.keepIn K (.ref f_law) = true)
    (hn_all : PySem.W.specialIn K (.builtin "object.__class__") "__get__" = some (some (.builtin "getset_descriptor.__get__")))
    (ht_all : PySem.W.takesIn K (.builtin "object.__class__") = some true)
    (z_isinstance : PySem.W.nsIn K mainGlobals "isinstance" = some none)
    (z_range : PySem.W.nsIn K mainGlobals "range" = some none)
    (z_tuple : PySem.W.nsIn K mainGlobals "tuple" = some none)
    (z_all : PySem.W.nsIn K mainGlobals "all" = some none)
    (z_list : PySem.W.nsIn K mainGlobals "list" = some none)
    (z_enumerate : PySem.W.nsIn K mainGlobals "enumerate" = some none)
    (z_sorted : PySem.W.nsIn K mainGlobals "sorted" = some none)
    (z_int : PySem.W.nsIn K mainGlobals "int" = some none)
    (z_str : PySem.W.nsIn K mainGlobals "str" = some none)
    (z_len : PySem.W.nsIn K mainGlobals "len" = some none)
    (z_min : PySem.W.nsIn K mainGlobals "min" = some none)
    (z_set : PySem.W.nsIn K mainGlobals "set" = some none)
    (z_max : PySem.W.nsIn K mainGlobals "max" = some none)
    (z_any : PySem.W.nsIn K mainGlobals "any" = some none)
    (z_bool : PySem.W.nsIn K mainGlobals "bool" = some none)
    (z_dict : PySem.W.nsIn K mainGlobals "dict" = some none)
    (h_SMALL : PySem.W.nsIn K mainGlobals "SMALL" = some (some (.str "abcdefghijklmnopqrstuvwxyz" t_SMALL)))
    (h_MOST_STANDINGS : PySem.W.nsIn K mainGlobals "MOST_STANDINGS" = some (some (.int 24 t_MOST_STANDINGS)))
    (h_MOST_ROWS : PySem.W.nsIn K mainGlobals "MOST_ROWS" = some (some (.int 6 t_MOST_ROWS)))
    (h_LONGEST : PySem.W.nsIn K mainGlobals "LONGEST" = some (some (.int 12 t_LONGEST)))
    (h_MOST_DENIED : PySem.W.nsIn K mainGlobals "MOST_DENIED" = some (some (.int 6 t_MOST_DENIED)))
    (h_LONGEST_DENIED : PySem.W.nsIn K mainGlobals "LONGEST_DENIED" = some (some (.int 60 t_LONGEST_DENIED)))
    : ∃ fd : FuncData, (∀ (s : Shared) (v : Value), BindsTo s fd ⟨[v], []⟩ [("_law_script", v)]) ∧ ∀ base : Heap, K.In base → base.Ns mainGlobals mg → TopOk l.prog w K mg base fa fd ["_law_script"] (spLaw K) := by
  have e : f_law = fa := by
    have e2 := hfa.symm.trans (PySem.W.mg_of X G a_law)
    cases e2
    rfl
  subst e
  let T : Top K mg := {
    d_is_integer := ⟨f_is_integer, _, (fun_mk (st := s_is_integer) l_is_integer c_is_integer p_is_integer), (fun_mk (st := s_is_integer) l_is_integer c_is_integer p_is_integer).binds (ps := ["thing"]) (fun _ _ _ _ _ _ us hl => match us, hl with | [_], _ => rfl), PySem.W.mg_of X G a_is_integer⟩,
    d_is_listed := ⟨f_is_listed, _, (fun_mk (st := s_is_listed) l_is_listed c_is_listed p_is_listed), (fun_mk (st := s_is_listed) l_is_listed c_is_listed p_is_listed).binds (ps := ["thing"]) (fun _ _ _ _ _ _ us hl => match us, hl with | [_], _ => rfl), PySem.W.mg_of X G a_is_listed⟩,
    d_is_string_of := ⟨f_is_string_of, _, (fun_mk (st := s_is_string_of) l_is_string_of c_is_string_of p_is_string_of), (fun_mk (st := s_is_string_of) l_is_string_of c_is_string_of p_is_string_of).binds (ps := ["thing", "signs"]) (fun _ _ _ _ _ _ us hl => match us, hl with | [_, _], _ => rfl), PySem.W.mg_of X G a_is_string_of⟩,
    d_is_word := ⟨f_is_word, _, (fun_mk (st := s_is_word) l_is_word c_is_word p_is_word), (fun_mk (st := s_is_word) l_is_word c_is_word p_is_word).binds (ps := ["thing"]) (fun _ _ _ _ _ _ us hl => match us, hl with | [_], _ => rfl), PySem.W.mg_of X G a_is_word⟩,
    d_is_deeds := ⟨f_is_deeds, _, (fun_mk (st := s_is_deeds) l_is_deeds c_is_deeds p_is_deeds), (fun_mk (st := s_is_deeds) l_is_deeds c_is_deeds p_is_deeds).binds (ps := ["thing"]) (fun _ _ _ _ _ _ us hl => match us, hl with | [_], _ => rfl), PySem.W.mg_of X G a_is_deeds⟩,
    d_undoing_of := ⟨f_undoing_of, _, (fun_mk (st := s_undoing_of) l_undoing_of c_undoing_of p_undoing_of), (fun_mk (st := s_undoing_of) l_undoing_of c_undoing_of p_undoing_of).binds (ps := ["letter"]) (fun _ _ _ _ _ _ us hl => match us, hl with | [_], _ => rfl), PySem.W.mg_of X G a_undoing_of⟩,
    d_letters_over := ⟨f_letters_over, _, (fun_mk (st := s_letters_over) l_letters_over c_letters_over p_letters_over), (fun_mk (st := s_letters_over) l_letters_over c_letters_over p_letters_over).binds (ps := ["deeds"]) (fun _ _ _ _ _ _ us hl => match us, hl with | [_], _ => rfl), PySem.W.mg_of X G a_letters_over⟩,
    d_is_row_over := ⟨f_is_row_over, _, (fun_mk (st := s_is_row_over) l_is_row_over c_is_row_over p_is_row_over), (fun_mk (st := s_is_row_over) l_is_row_over c_is_row_over p_is_row_over).binds (ps := ["deeds", "thing"]) (fun _ _ _ _ _ _ us hl => match us, hl with | [_, _], _ => rfl), PySem.W.mg_of X G a_is_row_over⟩,
    d_are_rows_over := ⟨f_are_rows_over, _, (fun_mk (st := s_are_rows_over) l_are_rows_over c_are_rows_over p_are_rows_over), (fun_mk (st := s_are_rows_over) l_are_rows_over c_are_rows_over p_are_rows_over).binds (ps := ["deeds", "thing", "most", "longest"]) (fun _ _ _ _ _ _ us hl => match us, hl with | [_, _, _, _], _ => rfl), PySem.W.mg_of X G a_are_rows_over⟩,
    d_check_row := ⟨f_check_row, _, (fun_mk (st := s_check_row) l_check_row c_check_row p_check_row), (fun_mk (st := s_check_row) l_check_row c_check_row p_check_row).binds (ps := ["deeds", "thing"]) (fun _ _ _ _ _ _ us hl => match us, hl with | [_, _], _ => rfl), PySem.W.mg_of X G a_check_row⟩,
    d_check_deeds := ⟨f_check_deeds, _, (fun_mk (st := s_check_deeds) l_check_deeds c_check_deeds p_check_deeds), (fun_mk (st := s_check_deeds) l_check_deeds c_check_deeds p_check_deeds).binds (ps := ["thing"]) (fun _ _ _ _ _ _ us hl => match us, hl with | [_], _ => rfl), PySem.W.mg_of X G a_check_deeds⟩,
    d_check_rows := ⟨f_check_rows, _, (fun_mk (st := s_check_rows) l_check_rows c_check_rows p_check_rows), (fun_mk (st := s_check_rows) l_check_rows c_check_rows p_check_rows).binds (ps := ["deeds", "thing", "most", "longest"]) (fun _ _ _ _ _ _ us hl => match us, hl with | [_, _, _, _], _ => rfl), PySem.W.mg_of X G a_check_rows⟩,
    C_Places := C_Places,
    m_Places___init__ := ⟨f_Places___init__, _, (fun_mk (st := s_Places___init__) l_Places___init__ c_Places___init__ p_Places___init__), (fun_mk (st := s_Places___init__) l_Places___init__ c_Places___init__ p_Places___init__).binds (ps := ["self", "many"]) (fun _ _ _ _ _ _ us hl => match us, hl with | [_, _], _ => rfl), ⟨a_Places___init__, i_Places___init__, p_Places___init__⟩⟩,
    m_Places_head := ⟨f_Places_head, _, (fun_mk (st := s_Places_head) l_Places_head c_Places_head p_Places_head), (fun_mk (st := s_Places_head) l_Places_head c_Places_head p_Places_head).binds (ps := ["self", "place"]) (fun _ _ _ _ _ _ us hl => match us, hl with | [_, _], _ => rfl), ⟨a_Places_head, i_Places_head, p_Places_head⟩⟩,
    m_Places_join := ⟨f_Places_join, _, (fun_mk (st := s_Places_join) l_Places_join c_Places_join p_Places_join), (fun_mk (st := s_Places_join) l_Places_join c_Places_join p_Places_join).binds (ps := ["self", "one", "other"]) (fun _ _ _ _ _ _ us hl => match us, hl with | [_, _, _], _ => rfl), ⟨a_Places_join, i_Places_join, p_Places_join⟩⟩,
    k_Places := ⟨⟨pg_Places, hd_Places, po_Places, sa_Places⟩, ⟨mk_Places, a_Places___init__, i_Places___init__, kc_Places⟩, PySem.W.mg_of X G a_Places⟩,
    n_Places_heads := n_Places_heads,
    d_forward_ways := ⟨f_forward_ways, _, (fun_mk (st := s_forward_ways) l_forward_ways c_forward_ways p_forward_ways), (fun_mk (st := s_forward_ways) l_forward_ways c_forward_ways p_forward_ways).binds (ps := ["arrows"]) (fun _ _ _ _ _ _ us hl => match us, hl with | [_], _ => rfl), PySem.W.mg_of X G a_forward_ways⟩,
    d_join_once := ⟨f_join_once, _, (fun_mk (st := s_join_once) l_join_once c_join_once p_join_once), (fun_mk (st := s_join_once) l_join_once c_join_once p_join_once).binds (ps := ["places", "ways"]) (fun _ _ _ _ _ _ us hl => match us, hl with | [_, _], _ => rfl), PySem.W.mg_of X G a_join_once⟩,
    d_joined_places := ⟨f_joined_places, _, (fun_mk (st := s_joined_places) l_joined_places c_joined_places p_joined_places), (fun_mk (st := s_joined_places) l_joined_places c_joined_places p_joined_places).binds (ps := ["many", "arrows"]) (fun _ _ _ _ _ _ us hl => match us, hl with | [_, _], _ => rfl), PySem.W.mg_of X G a_joined_places⟩,
    d_head_ways := ⟨f_head_ways, _, (fun_mk (st := s_head_ways) l_head_ways c_head_ways p_head_ways), (fun_mk (st := s_head_ways) l_head_ways c_head_ways p_head_ways).binds (ps := ["places", "ways"]) (fun _ _ _ _ _ _ us hl => match us, hl with | [_, _], _ => rfl), PySem.W.mg_of X G a_head_ways⟩,
    d_hanging := ⟨f_hanging, _, (fun_mk (st := s_hanging) l_hanging c_hanging p_hanging), (fun_mk (st := s_hanging) l_hanging c_hanging p_hanging).binds (ps := ["ways", "base"]) (fun _ _ _ _ _ _ us hl => match us, hl with | [_, _], _ => rfl), PySem.W.mg_of X G a_hanging⟩,
    d_is_tail := ⟨f_is_tail, _, (fun_mk (st := s_is_tail) l_is_tail c_is_tail p_is_tail), (fun_mk (st := s_is_tail) l_is_tail c_is_tail p_is_tail).binds (ps := ["ends", "base", "way"]) (fun _ _ _ _ _ _ us hl => match us, hl with | [_, _, _], _ => rfl), PySem.W.mg_of X G a_is_tail⟩,
    d_without_tails := ⟨f_without_tails, _, (fun_mk (st := s_without_tails) l_without_tails c_without_tails p_without_tails), (fun_mk (st := s_without_tails) l_without_tails c_without_tails p_without_tails).binds (ps := ["ways", "base"]) (fun _ _ _ _ _ _ us hl => match us, hl with | [_, _], _ => rfl), PySem.W.mg_of X G a_without_tails⟩,
    d_steps_of := ⟨f_steps_of, _, (fun_mk (st := s_steps_of) l_steps_of c_steps_of p_steps_of), (fun_mk (st := s_steps_of) l_steps_of c_steps_of p_steps_of).binds (ps := ["ways"]) (fun _ _ _ _ _ _ us hl => match us, hl with | [_], _ => rfl), PySem.W.mg_of X G a_steps_of⟩,
    d_numbered := ⟨f_numbered, _, (fun_mk (st := s_numbered) l_numbered c_numbered p_numbered), (fun_mk (st := s_numbered) l_numbered c_numbered p_numbered).binds (ps := ["deeds", "ways", "base"]) (fun _ _ _ _ _ _ us hl => match us, hl with | [_, _, _], _ => rfl), PySem.W.mg_of X G a_numbered⟩,
    d_trimmed := ⟨f_trimmed, _, (fun_mk (st := s_trimmed) l_trimmed c_trimmed p_trimmed), (fun_mk (st := s_trimmed) l_trimmed c_trimmed p_trimmed).binds (ps := ["deeds", "ways", "base"]) (fun _ _ _ _ _ _ us hl => match us, hl with | [_, _, _], _ => rfl), PySem.W.mg_of X G a_trimmed⟩,
    d_folded_ways := ⟨f_folded_ways, _, (fun_mk (st := s_folded_ways) l_folded_ways c_folded_ways p_folded_ways), (fun_mk (st := s_folded_ways) l_folded_ways c_folded_ways p_folded_ways).binds (ps := ["deeds", "many", "arrows", "base"]) (fun _ _ _ _ _ _ us hl => match us, hl with | [_, _, _, _], _ => rfl), PySem.W.mg_of X G a_folded_ways⟩,
    d_chain := ⟨f_chain, _, (fun_mk (st := s_chain) l_chain c_chain p_chain), (fun_mk (st := s_chain) l_chain c_chain p_chain).binds (ps := ["row", "first", "last", "fresh"]) (fun _ _ _ _ _ _ us hl => match us, hl with | [_, _, _, _], _ => rfl), PySem.W.mg_of X G a_chain⟩,
    d_ring_end := ⟨f_ring_end, _, (fun_mk (st := s_ring_end) l_ring_end c_ring_end p_ring_end), (fun_mk (st := s_ring_end) l_ring_end c_ring_end p_ring_end).binds (ps := ["behind", "place"]) (fun _ _ _ _ _ _ us hl => match us, hl with | [_, _], _ => rfl), PySem.W.mg_of X G a_ring_end⟩,
    d_filled := ⟨f_filled, _, (fun_mk (st := s_filled) l_filled c_filled p_filled), (fun_mk (st := s_filled) l_filled c_filled p_filled).binds (ps := ["deeds", "size", "ways"]) (fun _ _ _ _ _ _ us hl => match us, hl with | [_, _, _], _ => rfl), PySem.W.mg_of X G a_filled⟩,
    d_net_letters := ⟨f_net_letters, _, (fun_mk (st := s_net_letters) l_net_letters c_net_letters p_net_letters), (fun_mk (st := s_net_letters) l_net_letters c_net_letters p_net_letters).binds (ps := ["row"]) (fun _ _ _ _ _ _ us hl => match us, hl with | [_], _ => rfl), PySem.W.mg_of X G a_net_letters⟩,
    d_turned_back := ⟨f_turned_back, _, (fun_mk (st := s_turned_back) l_turned_back c_turned_back p_turned_back), (fun_mk (st := s_turned_back) l_turned_back c_turned_back p_turned_back).binds (ps := ["move"]) (fun _ _ _ _ _ _ us hl => match us, hl with | [_], _ => rfl), PySem.W.mg_of X G a_turned_back⟩,
    d_is_standing := ⟨f_is_standing, _, (fun_mk (st := s_is_standing) l_is_standing c_is_standing p_is_standing), (fun_mk (st := s_is_standing) l_is_standing c_is_standing p_is_standing).binds (ps := ["size", "thing"]) (fun _ _ _ _ _ _ us hl => match us, hl with | [_, _], _ => rfl), PySem.W.mg_of X G a_is_standing⟩,
    d_is_move := ⟨f_is_move, _, (fun_mk (st := s_is_move) l_is_move c_is_move p_is_move), (fun_mk (st := s_is_move) l_is_move c_is_move p_is_move).binds (ps := ["size", "thing"]) (fun _ _ _ _ _ _ us hl => match us, hl with | [_, _], _ => rfl), PySem.W.mg_of X G a_is_move⟩,
    d_are_moves := ⟨f_are_moves, _, (fun_mk (st := s_are_moves) l_are_moves c_are_moves p_are_moves), (fun_mk (st := s_are_moves) l_are_moves c_are_moves p_are_moves).binds (ps := ["deeds", "thing"]) (fun _ _ _ _ _ _ us hl => match us, hl with | [_, _], _ => rfl), PySem.W.mg_of X G a_are_moves⟩,
    d_all_moves := ⟨f_all_moves, _, (fun_mk (st := s_all_moves) l_all_moves c_all_moves p_all_moves), (fun_mk (st := s_all_moves) l_all_moves c_all_moves p_all_moves).binds (ps := ["deeds", "moves"]) (fun _ _ _ _ _ _ us hl => match us, hl with | [_, _], _ => rfl), PySem.W.mg_of X G a_all_moves⟩,
    C_World := C_World,
    m_World___init__ := ⟨f_World___init__, _, (fun_mk (st := s_World___init__) l_World___init__ c_World___init__ p_World___init__), (fun_mk (st := s_World___init__) l_World___init__ c_World___init__ p_World___init__).binds (ps := ["self", "deeds", "moves"]) (fun _ _ _ _ _ _ us hl => match us, hl with | [_, _, _], _ => rfl), ⟨a_World___init__, i_World___init__, p_World___init__⟩⟩,
    m_World_keep := ⟨f_World_keep, _, (fun_mk (st := s_World_keep) l_World_keep c_World_keep p_World_keep), (fun_mk (st := s_World_keep) l_World_keep c_World_keep p_World_keep).binds (ps := ["self", "deeds", "moves"]) (fun _ _ _ _ _ _ us hl => match us, hl with | [_, _, _], _ => rfl), ⟨a_World_keep, i_World_keep, p_World_keep⟩⟩,
    m_World___eq__ := ⟨f_World___eq__, _, (fun_mk (st := s_World___eq__) l_World___eq__ c_World___eq__ p_World___eq__), (fun_mk (st := s_World___eq__) l_World___eq__ c_World___eq__ p_World___eq__).binds (ps := ["self", "thing"]) (fun _ _ _ _ _ _ us hl => match us, hl with | [_, _], _ => rfl), ⟨a_World___eq__, i_World___eq__, p_World___eq__⟩⟩,
    p_World_moves := ⟨f_World_moves, _, pp_World_moves, (fun_mk (st := s_World_moves) l_World_moves c_World_moves p_World_moves), (fun_mk (st := s_World_moves) l_World_moves c_World_moves p_World_moves).binds (ps := ["self"]) (fun _ _ _ _ _ _ us hl => match us, hl with | [_], _ => rfl), ⟨b_World_moves, g_World_moves, t_World_moves, ⟨_, r_World_moves⟩⟩⟩,
    k_World := ⟨⟨pg_World, hd_World, po_World, sa_World⟩, ⟨mk_World, a_World___init__, i_World___init__, kc_World⟩, PySem.W.mg_of X G a_World⟩,
    i_World := ⟨⟨pg_World, hd_World, po_World, sa_World⟩, ha_World, hn_all, ht_all, hm_World, if_pos (beq_self_eq_true _)⟩,
    n_World_deeds := n_World_deeds,
    n_World_size := n_World_size,
    n_World_kept_moves := n_World_kept_moves,
    n_World_kept_backs := n_World_kept_backs,
    C_RawWorld := C_RawWorld,
    m_RawWorld___init__ := ⟨f_RawWorld___init__, _, (fun_mk (st := s_RawWorld___init__) l_RawWorld___init__ c_RawWorld___init__ p_RawWorld___init__), (fun_mk (st := s_RawWorld___init__) l_RawWorld___init__ c_RawWorld___init__ p_RawWorld___init__).binds (ps := ["self", "deeds", "moves"]) (fun _ _ _ _ _ _ us hl => match us, hl with | [_, _, _], _ => rfl), ⟨a_RawWorld___init__, i_RawWorld___init__, p_RawWorld___init__⟩⟩,
    o_RawWorld_keep := ⟨v_RawWorld_keep, i_World_keep, p_World_keep⟩,
    o_RawWorld___eq__ := ⟨v_RawWorld___eq__, i_World___eq__, p_World___eq__⟩,
    q_RawWorld_moves := ⟨v_RawWorld_moves, g_World_moves, t_World_moves, ⟨_, r_World_moves⟩⟩,
    k_RawWorld := ⟨⟨pg_RawWorld, hd_RawWorld, po_RawWorld, sa_RawWorld⟩, ⟨mk_RawWorld, a_RawWorld___init__, i_RawWorld___init__, kc_RawWorld⟩, PySem.W.mg_of X G a_RawWorld⟩,
    n_RawWorld_deeds := n_RawWorld_deeds,
    n_RawWorld_size := n_RawWorld_size,
    n_RawWorld_kept_moves := n_RawWorld_kept_moves,
    n_RawWorld_kept_backs := n_RawWorld_kept_backs,
    d_check_standing := ⟨f_check_standing, _, (fun_mk (st := s_check_standing) l_check_standing c_check_standing p_check_standing), (fun_mk (st := s_check_standing) l_check_standing c_check_standing p_check_standing).binds (ps := ["world", "standing"]) (fun _ _ _ _ _ _ us hl => match us, hl with | [_, _], _ => rfl), PySem.W.mg_of X G a_check_standing⟩,
    d_led := ⟨f_led, _, (fun_mk (st := s_led) l_led c_led p_led), (fun_mk (st := s_led) l_led c_led p_led).binds (ps := ["world", "standing", "row"]) (fun _ _ _ _ _ _ us hl => match us, hl with | [_, _, _], _ => rfl), PySem.W.mg_of X G a_led⟩,
    C_Web := C_Web,
    m_Web___init__ := ⟨f_Web___init__, _, (fun_mk (st := s_Web___init__) l_Web___init__ c_Web___init__ p_Web___init__), (fun_mk (st := s_Web___init__) l_Web___init__ c_Web___init__ p_Web___init__).binds (ps := ["self", "deeds", "size", "ways"]) (fun _ _ _ _ _ _ us hl => match us, hl with | [_, _, _, _], _ => rfl), ⟨a_Web___init__, i_Web___init__, p_Web___init__⟩⟩,
    m_Web___eq__ := ⟨f_Web___eq__, _, (fun_mk (st := s_Web___eq__) l_Web___eq__ c_Web___eq__ p_Web___eq__), (fun_mk (st := s_Web___eq__) l_Web___eq__ c_Web___eq__ p_Web___eq__).binds (ps := ["self", "other"]) (fun _ _ _ _ _ _ us hl => match us, hl with | [_, _], _ => rfl), ⟨a_Web___eq__, i_Web___eq__, p_Web___eq__⟩⟩,
    k_Web := ⟨⟨pg_Web, hd_Web, po_Web, sa_Web⟩, ⟨mk_Web, a_Web___init__, i_Web___init__, kc_Web⟩, PySem.W.mg_of X G a_Web⟩,
    i_Web := ⟨⟨pg_Web, hd_Web, po_Web, sa_Web⟩, ha_Web, hn_all, ht_all, hm_Web, if_pos (beq_self_eq_true _)⟩,
    n_Web_deeds := n_Web_deeds,
    n_Web_size := n_Web_size,
    n_Web_ways := n_Web_ways,
    n_Web_kept_deeds := n_Web_kept_deeds,
    n_Web_kept_size := n_Web_kept_size,
    n_Web_kept_ways := n_Web_kept_ways,
    n_Web_kept_steps := n_Web_kept_steps,
    d_folded := ⟨f_folded, _, (fun_mk (st := s_folded) l_folded c_folded p_folded), (fun_mk (st := s_folded) l_folded c_folded p_folded).binds (ps := ["deeds", "many", "arrows", "base"]) (fun _ _ _ _ _ _ us hl => match us, hl with | [_, _, _, _], _ => rfl), PySem.W.mg_of X G a_folded⟩,
    d_check_makers := ⟨f_check_makers, _, (fun_mk (st := s_check_makers) l_check_makers c_check_makers p_check_makers), (fun_mk (st := s_check_makers) l_check_makers c_check_makers p_check_makers).binds (ps := ["deeds", "rows"]) (fun _ _ _ _ _ _ us hl => match us, hl with | [_, _], _ => rfl), PySem.W.mg_of X G a_check_makers⟩,
    d_made_web := ⟨f_made_web, _, (fun_mk (st := s_made_web) l_made_web c_made_web p_made_web), (fun_mk (st := s_made_web) l_made_web c_made_web p_made_web).binds (ps := ["deeds", "rows"]) (fun _ _ _ _ _ _ us hl => match us, hl with | [_, _], _ => rfl), PySem.W.mg_of X G a_made_web⟩,
    C_Grown := C_Grown,
    m_Grown___init__ := ⟨f_Grown___init__, _, (fun_mk (st := s_Grown___init__) l_Grown___init__ c_Grown___init__ p_Grown___init__), (fun_mk (st := s_Grown___init__) l_Grown___init__ c_Grown___init__ p_Grown___init__).binds (ps := ["self", "web"]) (fun _ _ _ _ _ _ us hl => match us, hl with | [_, _], _ => rfl), ⟨a_Grown___init__, i_Grown___init__, p_Grown___init__⟩⟩,
    m_Grown_go := ⟨f_Grown_go, _, (fun_mk (st := s_Grown_go) l_Grown_go c_Grown_go p_Grown_go), (fun_mk (st := s_Grown_go) l_Grown_go c_Grown_go p_Grown_go).binds (ps := ["self", "place", "letter"]) (fun _ _ _ _ _ _ us hl => match us, hl with | [_, _, _], _ => rfl), ⟨a_Grown_go, i_Grown_go, p_Grown_go⟩⟩,
    m_Grown_lead := ⟨f_Grown_lead, _, (fun_mk (st := s_Grown_lead) l_Grown_lead c_Grown_lead p_Grown_lead), (fun_mk (st := s_Grown_lead) l_Grown_lead c_Grown_lead p_Grown_lead).binds (ps := ["self", "row"]) (fun _ _ _ _ _ _ us hl => match us, hl with | [_, _], _ => rfl), ⟨a_Grown_lead, i_Grown_lead, p_Grown_lead⟩⟩,
    k_Grown := ⟨⟨pg_Grown, hd_Grown, po_Grown, sa_Grown⟩, ⟨mk_Grown, a_Grown___init__, i_Grown___init__, kc_Grown⟩, PySem.W.mg_of X G a_Grown⟩,
    n_Grown_size := n_Grown_size,
    n_Grown_ways := n_Grown_ways,
    n_Grown_goals := n_Grown_goals,
    d_check_home := ⟨f_check_home, _, (fun_mk (st := s_check_home) l_check_home c_check_home p_check_home), (fun_mk (st := s_check_home) l_check_home c_check_home p_check_home).binds (ps := ["deeds", "rows", "denied"]) (fun _ _ _ _ _ _ us hl => match us, hl with | [_, _, _], _ => rfl), PySem.W.mg_of X G a_check_home⟩,
    d_made_home := ⟨f_made_home, _, (fun_mk (st := s_made_home) l_made_home c_made_home p_made_home), (fun_mk (st := s_made_home) l_made_home c_made_home p_made_home).binds (ps := ["deeds", "rows", "denied"]) (fun _ _ _ _ _ _ us hl => match us, hl with | [_, _, _], _ => rfl), PySem.W.mg_of X G a_made_home⟩,
    d_home := ⟨f_home, _, (fun_mk (st := s_home) l_home c_home p_home), (fun_mk (st := s_home) l_home c_home p_home).binds (ps := ["deeds", "rows", "denied"]) (fun _ _ _ _ _ _ us hl => match us, hl with | [_, _, _], _ => rfl), PySem.W.mg_of X G a_home⟩,
    d_leads_home := ⟨f_leads_home, _, (fun_mk (st := s_leads_home) l_leads_home c_leads_home p_leads_home), (fun_mk (st := s_leads_home) l_leads_home c_leads_home p_leads_home).binds (ps := ["world", "row"]) (fun _ _ _ _ _ _ us hl => match us, hl with | [_, _], _ => rfl), PySem.W.mg_of X G a_leads_home⟩,
    d_is_home := ⟨f_is_home, _, (fun_mk (st := s_is_home) l_is_home c_is_home p_is_home), (fun_mk (st := s_is_home) l_is_home c_is_home p_is_home).binds (ps := ["deeds", "rows", "denied", "thing"]) (fun _ _ _ _ _ _ us hl => match us, hl with | [_, _, _, _], _ => rfl), PySem.W.mg_of X G a_is_home⟩,
    d__law_pool := ⟨f__law_pool, _, (fun_mk (st := s__law_pool) l__law_pool c__law_pool p__law_pool), (fun_mk (st := s__law_pool) l__law_pool c__law_pool p__law_pool).binds (ps := ["_law_script"]) (fun _ _ _ _ _ _ us hl => match us, hl with | [_], _ => rfl), PySem.W.mg_of X G a__law_pool⟩,
    d__law_draw := ⟨f__law_draw, _, (fun_mk (st := s__law_draw) l__law_draw c__law_draw p__law_draw), (fun_mk (st := s__law_draw) l__law_draw c__law_draw p__law_draw).binds (ps := ["_law_pool_here", "_law_number"]) (fun _ _ _ _ _ _ us hl => match us, hl with | [_, _], _ => rfl), PySem.W.mg_of X G a__law_draw⟩,
    d__law_deeds := ⟨f__law_deeds, _, (fun_mk (st := s__law_deeds) l__law_deeds c__law_deeds p__law_deeds), (fun_mk (st := s__law_deeds) l__law_deeds c__law_deeds p__law_deeds).binds (ps := ["_law_pool_here"]) (fun _ _ _ _ _ _ us hl => match us, hl with | [_], _ => rfl), PySem.W.mg_of X G a__law_deeds⟩,
    d__law_letters := ⟨f__law_letters, _, (fun_mk (st := s__law_letters) l__law_letters c__law_letters p__law_letters), (fun_mk (st := s__law_letters) l__law_letters c__law_letters p__law_letters).binds (ps := ["_law_deeds_here"]) (fun _ _ _ _ _ _ us hl => match us, hl with | [_], _ => rfl), PySem.W.mg_of X G a__law_letters⟩,
    d__law_flip := ⟨f__law_flip, _, (fun_mk (st := s__law_flip) l__law_flip c__law_flip p__law_flip), (fun_mk (st := s__law_flip) l__law_flip c__law_flip p__law_flip).binds (ps := ["_law_letter"]) (fun _ _ _ _ _ _ us hl => match us, hl with | [_], _ => rfl), PySem.W.mg_of X G a__law_flip⟩,
    d__law_net := ⟨f__law_net, _, (fun_mk (st := s__law_net) l__law_net c__law_net p__law_net), (fun_mk (st := s__law_net) l__law_net c__law_net p__law_net).binds (ps := ["_law_row"]) (fun _ _ _ _ _ _ us hl => match us, hl with | [_], _ => rfl), PySem.W.mg_of X G a__law_net⟩,
    d__law_undone := ⟨f__law_undone, _, (fun_mk (st := s__law_undone) l__law_undone c__law_undone p__law_undone), (fun_mk (st := s__law_undone) l__law_undone c__law_undone p__law_undone).binds (ps := ["_law_row"]) (fun _ _ _ _ _ _ us hl => match us, hl with | [_], _ => rfl), PySem.W.mg_of X G a__law_undone⟩,
    d__law_word := ⟨f__law_word, _, (fun_mk (st := s__law_word) l__law_word c__law_word p__law_word), (fun_mk (st := s__law_word) l__law_word c__law_word p__law_word).binds (ps := ["_law_pool_here", "_law_deeds_here", "_law_most"]) (fun _ _ _ _ _ _ us hl => match us, hl with | [_, _, _], _ => rfl), PySem.W.mg_of X G a__law_word⟩,
    d__law_rows := ⟨f__law_rows, _, (fun_mk (st := s__law_rows) l__law_rows c__law_rows p__law_rows), (fun_mk (st := s__law_rows) l__law_rows c__law_rows p__law_rows).binds (ps := ["_law_pool_here", "_law_deeds_here", "_law_most", "_law_longest"]) (fun _ _ _ _ _ _ us hl => match us, hl with | [_, _, _, _], _ => rfl), PySem.W.mg_of X G a__law_rows⟩,
    d__law_listed := ⟨f__law_listed, _, (fun_mk (st := s__law_listed) l__law_listed c__law_listed p__law_listed), (fun_mk (st := s__law_listed) l__law_listed c__law_listed p__law_listed).binds (ps := ["_law_pool_here", "_law_things"]) (fun _ _ _ _ _ _ us hl => match us, hl with | [_, _], _ => rfl), PySem.W.mg_of X G a__law_listed⟩,
    d__law_laid := ⟨f__law_laid, _, (fun_mk (st := s__law_laid) l__law_laid c__law_laid p__law_laid), (fun_mk (st := s__law_laid) l__law_laid c__law_laid p__law_laid).binds (ps := ["_law_rows_here"]) (fun _ _ _ _ _ _ us hl => match us, hl with | [_], _ => rfl), PySem.W.mg_of X G a__law_laid⟩,
    d__law_clash := ⟨f__law_clash, _, (fun_mk (st := s__law_clash) l__law_clash c__law_clash p__law_clash), (fun_mk (st := s__law_clash) l__law_clash c__law_clash p__law_clash).binds (ps := ["_law_pool_here", "_law_ways"]) (fun _ _ _ _ _ _ us hl => match us, hl with | [_, _], _ => rfl), PySem.W.mg_of X G a__law_clash⟩,
    d__law_folded := ⟨f__law_folded, _, (fun_mk (st := s__law_folded) l__law_folded c__law_folded p__law_folded), (fun_mk (st := s__law_folded) l__law_folded c__law_folded p__law_folded).binds (ps := ["_law_pool_here", "_law_ways"]) (fun _ _ _ _ _ _ us hl => match us, hl with | [_, _], _ => rfl), PySem.W.mg_of X G a__law_folded⟩,
    d__law_trimmed := ⟨f__law_trimmed, _, (fun_mk (st := s__law_trimmed) l__law_trimmed c__law_trimmed p__law_trimmed), (fun_mk (st := s__law_trimmed) l__law_trimmed c__law_trimmed p__law_trimmed).binds (ps := ["_law_ways"]) (fun _ _ _ _ _ _ us hl => match us, hl with | [_], _ => rfl), PySem.W.mg_of X G a__law_trimmed⟩,
    d__law_steps := ⟨f__law_steps, _, (fun_mk (st := s__law_steps) l__law_steps c__law_steps p__law_steps), (fun_mk (st := s__law_steps) l__law_steps c__law_steps p__law_steps).binds (ps := ["_law_ways"]) (fun _ _ _ _ _ _ us hl => match us, hl with | [_], _ => rfl), PySem.W.mg_of X G a__law_steps⟩,
    d__law_numbered := ⟨f__law_numbered, _, (fun_mk (st := s__law_numbered) l__law_numbered c__law_numbered p__law_numbered), (fun_mk (st := s__law_numbered) l__law_numbered c__law_numbered p__law_numbered).binds (ps := ["_law_deeds_here", "_law_ways"]) (fun _ _ _ _ _ _ us hl => match us, hl with | [_, _], _ => rfl), PySem.W.mg_of X G a__law_numbered⟩,
    d__law_web := ⟨f__law_web, _, (fun_mk (st := s__law_web) l__law_web c__law_web p__law_web), (fun_mk (st := s__law_web) l__law_web c__law_web p__law_web).binds (ps := ["_law_pool_here", "_law_deeds_here", "_law_rows_here"]) (fun _ _ _ _ _ _ us hl => match us, hl with | [_, _, _], _ => rfl), PySem.W.mg_of X G a__law_web⟩,
    d__law_lead := ⟨f__law_lead, _, (fun_mk (st := s__law_lead) l__law_lead c__law_lead p__law_lead), (fun_mk (st := s__law_lead) l__law_lead c__law_lead p__law_lead).binds (ps := ["_law_steps_here", "_law_place", "_law_row"]) (fun _ _ _ _ _ _ us hl => match us, hl with | [_, _, _], _ => rfl), PySem.W.mg_of X G a__law_lead⟩,
    d__law_product := ⟨f__law_product, _, (fun_mk (st := s__law_product) l__law_product c__law_product p__law_product), (fun_mk (st := s__law_product) l__law_product c__law_product p__law_product).binds (ps := ["_law_pool_here", "_law_rows_here", "_law_most"]) (fun _ _ _ _ _ _ us hl => match us, hl with | [_, _, _], _ => rfl), PySem.W.mg_of X G a__law_product⟩,
    d__law_led := ⟨f__law_led, _, (fun_mk (st := s__law_led) l__law_led c__law_led p__law_led), (fun_mk (st := s__law_led) l__law_led c__law_led p__law_led).binds (ps := ["_law_moves", "_law_standing", "_law_row"]) (fun _ _ _ _ _ _ us hl => match us, hl with | [_, _, _], _ => rfl), PySem.W.mg_of X G a__law_led⟩,
    d__law_is_home := ⟨f__law_is_home, _, (fun_mk (st := s__law_is_home) l__law_is_home c__law_is_home p__law_is_home), (fun_mk (st := s__law_is_home) l__law_is_home c__law_is_home p__law_is_home).binds (ps := ["_law_deeds_here", "_law_rows_here", "_law_denied_here", "_law_thing"]) (fun _ _ _ _ _ _ us hl => match us, hl with | [_, _, _, _], _ => rfl), PySem.W.mg_of X G a__law_is_home⟩,
    d__law_denied := ⟨f__law_denied, _, (fun_mk (st := s__law_denied) l__law_denied c__law_denied p__law_denied), (fun_mk (st := s__law_denied) l__law_denied c__law_denied p__law_denied).binds (ps := ["_law_pool_here", "_law_deeds_here", "_law_rows_here"]) (fun _ _ _ _ _ _ us hl => match us, hl with | [_, _, _], _ => rfl), PySem.W.mg_of X G a__law_denied⟩,
    d__law_fits := ⟨f__law_fits, _, (fun_mk (st := s__law_fits) l__law_fits c__law_fits p__law_fits), (fun_mk (st := s__law_fits) l__law_fits c__law_fits p__law_fits).binds (ps := ["_law_deeds_here", "_law_rows_here", "_law_denied_here", "_law_made", "_law_told"]) (fun _ _ _ _ _ _ us hl => match us, hl with | [_, _, _, _, _], _ => rfl), PySem.W.mg_of X G a__law_fits⟩,
    d_law := ⟨f_law, _, (fun_mk (st := s_law) l_law c_law p_law), (fun_mk (st := s_law) l_law c_law p_law).binds (ps := ["_law_script"]) (fun _ _ _ _ _ _ us hl => match us, hl with | [_], _ => rfl), PySem.W.mg_of X G a_law⟩,
    z_isinstance := PySem.W.mg_none_of X G z_isinstance,
    z_range := PySem.W.mg_none_of X G z_range,
    z_tuple := PySem.W.mg_none_of X G z_tuple,
    z_all := PySem.W.mg_none_of X G z_all,
    z_list := PySem.W.mg_none_of X G z_list,
    z_enumerate := PySem.W.mg_none_of X G z_enumerate,
    z_sorted := PySem.W.mg_none_of X G z_sorted,
    z_int := PySem.W.mg_none_of X G z_int,
    z_str := PySem.W.mg_none_of X G z_str,
    z_len := PySem.W.mg_none_of X G z_len,
    z_min := PySem.W.mg_none_of X G z_min,
    z_set := PySem.W.mg_none_of X G z_set,
    z_max := PySem.W.mg_none_of X G z_max,
    z_any := PySem.W.mg_none_of X G z_any,
    z_bool := PySem.W.mg_none_of X G z_bool,
    z_dict := PySem.W.mg_none_of X G z_dict,
    t_SMALL := t_SMALL,
    h_SMALL := PySem.W.mg_of X G h_SMALL,
    t_MOST_STANDINGS := t_MOST_STANDINGS,
    h_MOST_STANDINGS := PySem.W.mg_of X G h_MOST_STANDINGS,
    t_MOST_ROWS := t_MOST_ROWS,
    h_MOST_ROWS := PySem.W.mg_of X G h_MOST_ROWS,
    t_LONGEST := t_LONGEST,
    h_LONGEST := PySem.W.mg_of X G h_LONGEST,
    t_MOST_DENIED := t_MOST_DENIED,
    h_MOST_DENIED := PySem.W.mg_of X G h_MOST_DENIED,
    t_LONGEST_DENIED := t_LONGEST_DENIED,
    h_LONGEST_DENIED := PySem.W.mg_of X G h_LONGEST_DENIED,
    j_RawWorld_World := ⟨⟨pg_RawWorld, hd_RawWorld, po_RawWorld, sa_RawWorld⟩, ja_RawWorld_World, hn_all, ht_all, jm_RawWorld_World, je_RawWorld_World⟩
  }
  exact ⟨T.d_law.d, fun s v => .of_eq rfl, fun base _ _ => ok_law T room9⟩
end Rb
open PySem PySem.W PyProof.Rows
set_option maxRecDepth 100000 in
set_option maxHeartbeats 0 in
theorem PySem.Challenge.cw_runsback_k71_whole_many_denied_at_once_holds : PySem.Challenge.rw_runsback_k71_whole_many_denied_at_once.Holds := by
  w_on; o_law; k_head; (case hw => w_witness2)
  k_fill
  refine Rb.top_walk (l := PySem.Challenge.rw_runsback_k71_whole_many_denied_at_once) (n := 63) (x := "_law_script") (sp := Rb.spLaw) rfl (by decide) rfl (fun w h Y => PySem.W.kIn_of Y) ?F Rb.law_start
  case F =>
    intro w mg fa h KX G hmg
    refine' Rb.all_mk KX G hmg ?a_is_integer ?l_is_integer ?c_is_integer ?p_is_integer ?a_is_listed ?l_is_listed ?c_is_listed ?p_is_listed ?a_is_string_of ?l_is_string_of ?c_is_string_of ?p_is_string_of ?a_is_word ?l_is_word ?c_is_word ?p_is_word ?a_is_deeds ?l_is_deeds ?c_is_deeds ?p_is_deeds ?a_undoing_of ?l_undoing_of ?c_undoing_of ?p_undoing_of ?a_letters_over ?l_letters_over ?c_letters_over ?p_letters_over ?a_is_row_over ?l_is_row_over ?c_is_row_over ?p_is_row_over ?a_are_rows_over ?l_are_rows_over ?c_are_rows_over ?p_are_rows_over ?a_check_row ?l_check_row ?c_check_row ?p_check_row ?a_check_deeds ?l_check_deeds ?c_check_deeds ?p_check_deeds ?a_check_rows ?l_check_rows ?c_check_rows ?p_check_rows ?a_Places ?a_Places___init__ ?i_Places___init__ ?l_Places___init__ ?c_Places___init__ ?p_Places___init__ ?a_Places_head ?i_Places_head ?l_Places_head ?c_Places_head ?p_Places_head ?a_Places_join ?i_Places_join ?l_Places_join ?c_Places_join ?p_Places_join ?pg_Places ?hd_Places ?po_Places ?sa_Places ?mk_Places ?kc_Places ?n_Places_heads ?a_forward_ways ?l_forward_ways ?c_forward_ways ?p_forward_ways ?a_join_once ?l_join_once ?c_join_once ?p_join_once ?a_joined_places ?l_joined_places ?c_joined_places ?p_joined_places ?a_head_ways ?l_head_ways ?c_head_ways ?p_head_ways ?a_hanging ?l_hanging ?c_hanging ?p_hanging ?a_is_tail ?l_is_tail ?c_is_tail ?p_is_tail ?a_without_tails ?l_without_tails ?c_without_tails ?p_without_tails ?a_steps_of ?l_steps_of ?c_steps_of ?p_steps_of ?a_numbered ?l_numbered ?c_numbered ?p_numbered ?a_trimmed ?l_trimmed ?c_trimmed ?p_trimmed ?a_folded_ways ?l_folded_ways ?c_folded_ways ?p_folded_ways ?a_chain ?l_chain ?c_chain ?p_chain ?a_ring_end ?l_ring_end ?c_ring_end ?p_ring_end ?a_filled ?l_filled ?c_filled ?p_filled ?a_net_letters ?l_net_letters ?c_net_letters ?p_net_letters ?a_turned_back ?l_turned_back ?c_turned_back ?p_turned_back ?a_is_standing ?l_is_standing ?c_is_standing ?p_is_standing ?a_is_move ?l_is_move ?c_is_move ?p_is_move ?a_are_moves ?l_are_moves ?c_are_moves ?p_are_moves ?a_all_moves ?l_all_moves ?c_all_moves ?p_all_moves ?a_World ?a_World___init__ ?i_World___init__ ?l_World___init__ ?c_World___init__ ?p_World___init__ ?a_World_keep ?i_World_keep ?l_World_keep ?c_World_keep ?p_World_keep ?a_World___eq__ ?i_World___eq__ ?l_World___eq__ ?c_World___eq__ ?p_World___eq__ ?b_World_moves ?g_World_moves ?t_World_moves ?r_World_moves ?l_World_moves ?c_World_moves ?p_World_moves ?pg_World ?hd_World ?po_World ?sa_World ?mk_World ?kc_World ?ha_World ?hm_World ?n_World_deeds ?n_World_size ?n_World_kept_moves ?n_World_kept_backs ?a_RawWorld ?a_RawWorld___init__ ?i_RawWorld___init__ ?l_RawWorld___init__ ?c_RawWorld___init__ ?p_RawWorld___init__ ?v_RawWorld_keep ?v_RawWorld___eq__ ?v_RawWorld_moves ?ja_RawWorld_World ?jm_RawWorld_World ?je_RawWorld_World ?pg_RawWorld ?hd_RawWorld ?po_RawWorld ?sa_RawWorld ?mk_RawWorld ?kc_RawWorld ?n_RawWorld_deeds ?n_RawWorld_size ?n_RawWorld_kept_moves ?n_RawWorld_kept_backs ?a_check_standing ?l_check_standing ?c_check_standing ?p_check_standing ?a_led ?l_led ?c_led ?p_led ?a_Web ?a_Web___init__ ?i_Web___init__ ?l_Web___init__ ?c_Web___init__ ?p_Web___init__ ?a_Web___eq__ ?i_Web___eq__ ?l_Web___eq__ ?c_Web___eq__ ?p_Web___eq__ ?pg_Web ?hd_Web ?po_Web ?sa_Web ?mk_Web ?kc_Web ?ha_Web ?hm_Web ?n_Web_deeds ?n_Web_size ?n_Web_ways ?n_Web_kept_deeds ?n_Web_kept_size ?n_Web_kept_ways ?n_Web_kept_steps ?a_folded ?l_folded ?c_folded ?p_folded ?a_check_makers ?l_check_makers ?c_check_makers ?p_check_makers ?a_made_web ?l_made_web ?c_made_web ?p_made_web ?a_Grown ?a_Grown___init__ ?i_Grown___init__ ?l_Grown___init__ ?c_Grown___init__ ?p_Grown___init__ ?a_Grown_go ?i_Grown_go ?l_Grown_go ?c_Grown_go ?p_Grown_go ?a_Grown_lead ?i_Grown_lead ?l_Grown_lead ?c_Grown_lead ?p_Grown_lead ?pg_Grown ?hd_Grown ?po_Grown ?sa_Grown ?mk_Grown ?kc_Grown ?n_Grown_size ?n_Grown_ways ?n_Grown_goals ?a_check_home ?l_check_home ?c_check_home ?p_check_home ?a_made_home ?l_made_home ?c_made_home ?p_made_home ?a_home ?l_home ?c_home ?p_home ?a_leads_home ?l_leads_home ?c_leads_home ?p_leads_home ?a_is_home ?l_is_home ?c_is_home ?p_is_home ?a__law_pool ?l__law_pool ?c__law_pool ?p__law_pool ?a__law_draw ?l__law_draw ?c__law_draw ?p__law_draw ?a__law_deeds ?l__law_deeds ?c__law_deeds ?p__law_deeds ?a__law_letters ?l__law_letters ?c__law_letters ?p__law_letters ?a__law_flip ?l__law_flip ?c__law_flip ?p__law_flip ?a__law_net ?l__law_net ?c__law_net ?p__law_net ?a__law_undone ?l__law_undone ?c__law_undone ?p__law_undone ?a__law_word ?l__law_word ?c__law_word ?p__law_word ?a__law_rows ?l__law_rows ?c__law_rows ?p__law_rows ?a__law_listed ?l__law_listed ?c__law_listed ?p__law_listed ?a__law_laid ?l__law_laid ?c__law_laid ?p__law_laid ?a__law_clash ?l__law_clash ?c__law_clash ?p__law_clash ?a__law_folded ?l__law_folded ?c__law_folded ?p__law_folded ?a__law_trimmed ?l__law_trimmed ?c__law_trimmed ?p__law_trimmed ?a__law_steps ?l__law_steps ?c__law_steps ?p__law_steps ?a__law_numbered ?l__law_numbered ?c__law_numbered ?p__law_numbered ?a__law_web ?l__law_web ?c__law_web ?p__law_web ?a__law_lead ?l__law_lead ?c__law_lead ?p__law_lead ?a__law_product ?l__law_product ?c__law_product ?p__law_product ?a__law_led ?l__law_led ?c__law_led ?p__law_led ?a__law_is_home ?l__law_is_home ?c__law_is_home ?p__law_is_home ?a__law_denied ?l__law_denied ?c__law_denied ?p__law_denied ?a__law_fits ?l__law_fits ?c__law_fits ?p__law_fits ?a_law ?l_law ?c_law ?p_law ?hn_all ?ht_all ?z_isinstance ?z_range ?z_tuple ?z_all ?z_list ?z_enumerate ?z_sorted ?z_int ?z_str ?z_len ?z_min ?z_set ?z_max ?z_any ?z_bool ?z_dict ?h_SMALL ?h_MOST_STANDINGS ?h_MOST_ROWS ?h_LONGEST ?h_MOST_DENIED ?h_LONGEST_DENIED
    (case a_is_integer => k_is)
    (case l_is_integer => k_is)
    (case c_is_integer => k_is)
    (case p_is_integer => k_is)
    (case a_is_listed => k_is)
    (case l_is_listed => k_is)
    (case c_is_listed => k_is)
    (case p_is_listed => k_is)
    (case a_is_string_of => k_is)
    (case l_is_string_of => k_is)
    (case c_is_string_of => k_is)
    (case p_is_string_of => k_is)
    (case a_is_word => k_is)
    (case l_is_word => k_is)
    (case c_is_word => k_is)
    (case p_is_word => k_is)
    (case a_is_deeds => k_is)
    (case l_is_deeds => k_is)
    (case c_is_deeds => k_is)
    (case p_is_deeds => k_is)
    (case a_undoing_of => k_is)
    (case l_undoing_of => k_is)
    (case c_undoing_of => k_is)
    (case p_undoing_of => k_is)
    (case a_letters_over => k_is)
    (case l_letters_over => k_is)
    (case c_letters_over => k_is)
    (case p_letters_over => k_is)
    (case a_is_row_over => k_is)
    (case l_is_row_over => k_is)
    (case c_is_row_over => k_is)
    (case p_is_row_over => k_is)
    (case a_are_rows_over => k_is)
    (case l_are_rows_over => k_is)
    (case c_are_rows_over => k_is)
    (case p_are_rows_over => k_is)
    (case a_check_row => k_is)
    (case l_check_row => k_is)
    (case c_check_row => k_is)
    (case p_check_row => k_is)
    (case a_check_deeds => k_is)
    (case l_check_deeds => k_is)
    (case c_check_deeds => k_is)
    (case p_check_deeds => k_is)
    (case a_check_rows => k_is)
    (case l_check_rows => k_is)
    (case c_check_rows => k_is)
    (case p_check_rows => k_is)
    (case a_Places => k_is)
    (case a_Places___init__ => k_is)
    (case i_Places___init__ => k_is)
    (case l_Places___init__ => k_is)
    (case c_Places___init__ => k_is)
    (case p_Places___init__ => k_is)
    (case a_Places_head => k_is)
    (case i_Places_head => k_is)
    (case l_Places_head => k_is)
    (case c_Places_head => k_is)
    (case p_Places_head => k_is)
    (case a_Places_join => k_is)
    (case i_Places_join => k_is)
    (case l_Places_join => k_is)
    (case c_Places_join => k_is)
    (case p_Places_join => k_is)
    (case pg_Places => k_is)
    (case hd_Places => k_is)
    (case po_Places => k_is)
    (case sa_Places => k_is)
    (case mk_Places => k_is)
    (case kc_Places => k_is)
    (case n_Places_heads => k_is)
    (case a_forward_ways => k_is)
    (case l_forward_ways => k_is)
    (case c_forward_ways => k_is)
    (case p_forward_ways => k_is)
    (case a_join_once => k_is)
    (case l_join_once => k_is)
    (case c_join_once => k_is)
    (case p_join_once => k_is)
    (case a_joined_places => k_is)
    (case l_joined_places => k_is)
    (case c_joined_places => k_is)
    (case p_joined_places => k_is)
    (case a_head_ways => k_is)
    (case l_head_ways => k_is)
    (case c_head_ways => k_is)
    (case p_head_ways => k_is)
    (case a_hanging => k_is)
    (case l_hanging => k_is)
    (case c_hanging => k_is)
    (case p_hanging => k_is)
    (case a_is_tail => k_is)
    (case l_is_tail => k_is)
    (case c_is_tail => k_is)
    (case p_is_tail => k_is)
    (case a_without_tails => k_is)
    (case l_without_tails => k_is)
    (case c_without_tails => k_is)
    (case p_without_tails => k_is)
    (case a_steps_of => k_is)
    (case l_steps_of => k_is)
    (case c_steps_of => k_is)
    (case p_steps_of => k_is)
    (case a_numbered => k_is)
    (case l_numbered => k_is)
    (case c_numbered => k_is)
    (case p_numbered => k_is)
    (case a_trimmed => k_is)
    (case l_trimmed => k_is)
    (case c_trimmed => k_is)
    (case p_trimmed => k_is)
    (case a_folded_ways => k_is)
    (case l_folded_ways => k_is)
    (case c_folded_ways => k_is)
    (case p_folded_ways => k_is)
    (case a_chain => k_is)
    (case l_chain => k_is)
    (case c_chain => k_is)
    (case p_chain => k_is)
    (case a_ring_end => k_is)
    (case l_ring_end => k_is)
    (case c_ring_end => k_is)
    (case p_ring_end => k_is)
    (case a_filled => k_is)
    (case l_filled => k_is)
    (case c_filled => k_is)
    (case p_filled => k_is)
    (case a_net_letters => k_is)
    (case l_net_letters => k_is)
    (case c_net_letters => k_is)
    (case p_net_letters => k_is)
    (case a_turned_back => k_is)
    (case l_turned_back => k_is)
    (case c_turned_back => k_is)
    (case p_turned_back => k_is)
    (case a_is_standing => k_is)
    (case l_is_standing => k_is)
    (case c_is_standing => k_is)
    (case p_is_standing => k_is)
    (case a_is_move => k_is)
    (case l_is_move => k_is)
    (case c_is_move => k_is)
    (case p_is_move => k_is)
    (case a_are_moves => k_is)
    (case l_are_moves => k_is)
    (case c_are_moves => k_is)
    (case p_are_moves => k_is)
    (case a_all_moves => k_is)
    (case l_all_moves => k_is)
    (case c_all_moves => k_is)
    (case p_all_moves => k_is)
    (case a_World => k_is)
    (case a_World___init__ => k_is)
    (case i_World___init__ => k_is)
    (case l_World___init__ => k_is)
    (case c_World___init__ => k_is)
    (case p_World___init__ => k_is)
    (case a_World_keep => k_is)
    (case i_World_keep => k_is)
    (case l_World_keep => k_is)
    (case c_World_keep => k_is)
    (case p_World_keep => k_is)
    (case a_World___eq__ => k_is)
    (case i_World___eq__ => k_is)
    (case l_World___eq__ => k_is)
    (case c_World___eq__ => k_is)
    (case p_World___eq__ => k_is)
    (case b_World_moves => k_is)
    (case g_World_moves => k_is)
    (case t_World_moves => k_is)
    (case r_World_moves => k_is)
    (case l_World_moves => k_is)
    (case c_World_moves => k_is)
    (case p_World_moves => k_is)
    (case pg_World => k_is)
    (case hd_World => k_is)
    (case po_World => k_is)
    (case sa_World => k_is)
    (case mk_World => k_is)
    (case kc_World => k_is)
    (case ha_World => k_is)
    (case hm_World => k_is)
    (case n_World_deeds => k_is)
    (case n_World_size => k_is)
    (case n_World_kept_moves => k_is)
    (case n_World_kept_backs => k_is)
    (case a_RawWorld => k_is)
    (case a_RawWorld___init__ => k_is)
    (case i_RawWorld___init__ => k_is)
    (case l_RawWorld___init__ => k_is)
    (case c_RawWorld___init__ => k_is)
    (case p_RawWorld___init__ => k_is)
    (case v_RawWorld_keep => k_is)
    (case v_RawWorld___eq__ => k_is)
    (case v_RawWorld_moves => k_is)
    (case ja_RawWorld_World => k_is)
    (case jm_RawWorld_World => k_is)
    (case je_RawWorld_World => kit_is)
    (case pg_RawWorld => k_is)
    (case hd_RawWorld => k_is)
    (case po_RawWorld => k_is)
    (case sa_RawWorld => k_is)
    (case mk_RawWorld => k_is)
    (case kc_RawWorld => k_is)
    (case n_RawWorld_deeds => k_is)
    (case n_RawWorld_size => k_is)
    (case n_RawWorld_kept_moves => k_is)
    (case n_RawWorld_kept_backs => k_is)
    (case a_check_standing => k_is)
    (case l_check_standing => k_is)
    (case c_check_standing => k_is)
    (case p_check_standing => k_is)
    (case a_led => k_is)
    (case l_led => k_is)
    (case c_led => k_is)
    (case p_led => k_is)
    (case a_Web => k_is)
    (case a_Web___init__ => k_is)
    (case i_Web___init__ => k_is)
    (case l_Web___init__ => k_is)
    (case c_Web___init__ => k_is)
    (case p_Web___init__ => k_is)
    (case a_Web___eq__ => k_is)
    (case i_Web___eq__ => k_is)
    (case l_Web___eq__ => k_is)
    (case c_Web___eq__ => k_is)
    (case p_Web___eq__ => k_is)
    (case pg_Web => k_is)
    (case hd_Web => k_is)
    (case po_Web => k_is)
    (case sa_Web => k_is)
    (case mk_Web => k_is)
    (case kc_Web => k_is)
    (case ha_Web => k_is)
    (case hm_Web => k_is)
    (case n_Web_deeds => k_is)
    (case n_Web_size => k_is)
    (case n_Web_ways => k_is)
    (case n_Web_kept_deeds => k_is)
    (case n_Web_kept_size => k_is)
    (case n_Web_kept_ways => k_is)
    (case n_Web_kept_steps => k_is)
    (case a_folded => k_is)
    (case l_folded => k_is)
    (case c_folded => k_is)
    (case p_folded => k_is)
    (case a_check_makers => k_is)
    (case l_check_makers => k_is)
    (case c_check_makers => k_is)
    (case p_check_makers => k_is)
    (case a_made_web => k_is)
    (case l_made_web => k_is)
    (case c_made_web => k_is)
    (case p_made_web => k_is)
    (case a_Grown => k_is)
    (case a_Grown___init__ => k_is)
    (case i_Grown___init__ => k_is)
    (case l_Grown___init__ => k_is)
    (case c_Grown___init__ => k_is)
    (case p_Grown___init__ => k_is)
    (case a_Grown_go => k_is)
    (case i_Grown_go => k_is)
    (case l_Grown_go => k_is)
    (case c_Grown_go => k_is)
    (case p_Grown_go => k_is)
    (case a_Grown_lead => k_is)
    (case i_Grown_lead => k_is)
    (case l_Grown_lead => k_is)
    (case c_Grown_lead => k_is)
    (case p_Grown_lead => k_is)
    (case pg_Grown => k_is)
    (case hd_Grown => k_is)
    (case po_Grown => k_is)
    (case sa_Grown => k_is)
    (case mk_Grown => k_is)
    (case kc_Grown => k_is)
    (case n_Grown_size => k_is)
    (case n_Grown_ways => k_is)
    (case n_Grown_goals => k_is)
    (case a_check_home => k_is)
    (case l_check_home => k_is)
    (case c_check_home => k_is)
    (case p_check_home => k_is)
    (case a_made_home => k_is)
    (case l_made_home => k_is)
    (case c_made_home => k_is)
    (case p_made_home => k_is)
    (case a_home => k_is)
    (case l_home => k_is)
    (case c_home => k_is)
    (case p_home => k_is)
    (case a_leads_home => k_is)
    (case l_leads_home => k_is)
    (case c_leads_home => k_is)
    (case p_leads_home => k_is)
    (case a_is_home => k_is)
    (case l_is_home => k_is)
    (case c_is_home => k_is)
    (case p_is_home => k_is)
    (case a__law_pool => k_is)
    (case l__law_pool => k_is)
    (case c__law_pool => k_is)
    (case p__law_pool => k_is)
    (case a__law_draw => k_is)
    (case l__law_draw => k_is)
    (case c__law_draw => k_is)
    (case p__law_draw => k_is)
    (case a__law_deeds => k_is)
    (case l__law_deeds => k_is)
    (case c__law_deeds => k_is)
    (case p__law_deeds => k_is)
    (case a__law_letters => k_is)
    (case l__law_letters => k_is)
    (case c__law_letters => k_is)
    (case p__law_letters => k_is)
    (case a__law_flip => k_is)
    (case l__law_flip => k_is)
    (case c__law_flip => k_is)
    (case p__law_flip => k_is)
    (case a__law_net => k_is)
    (case l__law_net => k_is)
    (case c__law_net => k_is)
    (case p__law_net => k_is)
    (case a__law_undone => k_is)
    (case l__law_undone => k_is)
    (case c__law_undone => k_is)
    (case p__law_undone => k_is)
    (case a__law_word => k_is)
    (case l__law_word => k_is)
    (case c__law_word => k_is)
    (case p__law_word => k_is)
    (case a__law_rows => k_is)
    (case l__law_rows => k_is)
    (case c__law_rows => k_is)
    (case p__law_rows => k_is)
    (case a__law_listed => k_is)
    (case l__law_listed => k_is)
    (case c__law_listed => k_is)
    (case p__law_listed => k_is)
    (case a__law_laid => k_is)
    (case l__law_laid => k_is)
    (case c__law_laid => k_is)
    (case p__law_laid => k_is)
    (case a__law_clash => k_is)
    (case l__law_clash => k_is)
    (case c__law_clash => k_is)
    (case p__law_clash => k_is)
    (case a__law_folded => k_is)
    (case l__law_folded => k_is)
    (case c__law_folded => k_is)
    (case p__law_folded => k_is)
    (case a__law_trimmed => k_is)
    (case l__law_trimmed => k_is)
    (case c__law_trimmed => k_is)
    (case p__law_trimmed => k_is)
    (case a__law_steps => k_is)
    (case l__law_steps => k_is)
    (case c__law_steps => k_is)
    (case p__law_steps => k_is)
    (case a__law_numbered => k_is)
    (case l__law_numbered => k_is)
    (case c__law_numbered => k_is)
    (case p__law_numbered => k_is)
    (case a__law_web => k_is)
    (case l__law_web => k_is)
    (case c__law_web => k_is)
    (case p__law_web => k_is)
    (case a__law_lead => k_is)
    (case l__law_lead => k_is)
    (case c__law_lead => k_is)
    (case p__law_lead => k_is)
    (case a__law_product => k_is)
    (case l__law_product => k_is)
    (case c__law_product => k_is)
    (case p__law_product => k_is)
    (case a__law_led => k_is)
    (case l__law_led => k_is)
    (case c__law_led => k_is)
    (case p__law_led => k_is)
    (case a__law_is_home => k_is)
    (case l__law_is_home => k_is)
    (case c__law_is_home => k_is)
    (case p__law_is_home => k_is)
    (case a__law_denied => k_is)
    (case l__law_denied => k_is)
    (case c__law_denied => k_is)
    (case p__law_denied => k_is)
    (case a__law_fits => k_is)
    (case l__law_fits => k_is)
    (case c__law_fits => k_is)
    (case p__law_fits => k_is)
    (case a_law => k_is)
    (case l_law => k_is)
    (case c_law => k_is)
    (case p_law => k_is)
    (case hn_all => k_is)
    (case ht_all => k_is)
    (case z_isinstance => k_is)
    (case z_range => k_is)
    (case z_tuple => k_is)
    (case z_all => k_is)
    (case z_list => k_is)
    (case z_enumerate => k_is)
    (case z_sorted => k_is)
    (case z_int => k_is)
    (case z_str => k_is)
    (case z_len => k_is)
    (case z_min => k_is)
    (case z_set => k_is)
    (case z_max => k_is)
    (case z_any => k_is)
    (case z_bool => k_is)
    (case z_dict => k_is)
    (case h_SMALL => k_is)
    (case h_MOST_STANDINGS => k_is)
    (case h_MOST_ROWS => k_is)
    (case h_LONGEST => k_is)
    (case h_MOST_DENIED => k_is)
    (case h_LONGEST_DENIED => k_is)
