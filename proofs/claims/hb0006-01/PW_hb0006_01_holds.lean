import PyProof.Rows.All
import Wide.All
import OpenK.AllK
import Wide.FinOn
import PySem.Challenge.RW_hb0006_01
open PySem PySem.W PySem.Calls PyProof.Rows
set_option Elab.async false
set_option maxRecDepth 100000
set_option maxHeartbeats 8000000
set_option compiler.extract_closed false
namespace Mine
section
local macro_rules | `(tactic| o_head $_) => `(tactic| assumption)
theorem hd (h : PySem.Challenge.rw_hb0006_01.row.Holds) : PySem.Challenge.rw_hb0006_01.row.Holds := by
  k_head
end
theorem fill_all (w : World) (h : Heap) : (hd.heap_1 w.params).In h → PySem.Challenge.rw_hb0006_01.row.prog = PySem.Challenge.rw_hb0006_01.row.prog := by
  w_top off
  k_fill
  exact fun _ => rfl
section
theorem off_A : True := by
  w_top off
  trivial
/-- places in a written list (one small term each) -/
theorem mAt0 {α : Type} {x : α} {l : List α} : x ∈ x :: l := List.Mem.head _
theorem mAt1 {α : Type} {x : α} {a0 : α} {l : List α} : x ∈ a0 :: x :: l := .tail _ mAt0
theorem mAt2 {α : Type} {x : α} {a0 a1 : α} {l : List α} : x ∈ a0 :: a1 :: x :: l := .tail _ mAt1
theorem mAt3 {α : Type} {x : α} {a0 a1 a2 : α} {l : List α} : x ∈ a0 :: a1 :: a2 :: x :: l := .tail _ mAt2
theorem mAt4 {α : Type} {x : α} {a0 a1 a2 a3 : α} {l : List α} : x ∈ a0 :: a1 :: a2 :: a3 :: x :: l := .tail _ mAt3
theorem mAt5 {α : Type} {x : α} {a0 a1 a2 a3 a4 : α} {l : List α} : x ∈ a0 :: a1 :: a2 :: a3 :: a4 :: x :: l := .tail _ mAt4
theorem mAt6 {α : Type} {x : α} {a0 a1 a2 a3 a4 a5 : α} {l : List α} : x ∈ a0 :: a1 :: a2 :: a3 :: a4 :: a5 :: x :: l := .tail _ mAt5
theorem mAt7 {α : Type} {x : α} {a0 a1 a2 a3 a4 a5 a6 : α} {l : List α} : x ∈ a0 :: a1 :: a2 :: a3 :: a4 :: a5 :: a6 :: x :: l := .tail _ mAt6
theorem mAt8 {α : Type} {x : α} {a0 a1 a2 a3 a4 a5 a6 a7 : α} {l : List α} : x ∈ a0 :: a1 :: a2 :: a3 :: a4 :: a5 :: a6 :: a7 :: x :: l := .tail _ mAt7
theorem mAt9 {α : Type} {x : α} {a0 a1 a2 a3 a4 a5 a6 a7 a8 : α} {l : List α} : x ∈ a0 :: a1 :: a2 :: a3 :: a4 :: a5 :: a6 :: a7 :: a8 :: x :: l := .tail _ mAt8
theorem mTl10 {α : Type} {x : α} {a0 a1 a2 a3 a4 a5 a6 a7 a8 a9 : α} {l : List α} (h : x ∈ l) : x ∈ a0 :: a1 :: a2 :: a3 :: a4 :: a5 :: a6 :: a7 :: a8 :: a9 :: l := .tail _ (.tail _ (.tail _ (.tail _ (.tail _ (.tail _ (.tail _ (.tail _ (.tail _ (.tail _ h)))))))))
theorem ltAt {d a : Addr} {o : Obj} {l : List (Addr × Obj)} (h : ∀ p ∈ l, p.1 < d) (m : (a, o) ∈ l) : a ≠ d := Nat.ne_of_lt (h _ m)
theorem gtAt {d a : Addr} {o : Obj} {l : List (Addr × Obj)} (h : ∀ p ∈ l, p.1 < d) (m : (a, o) ∈ l) : d ≠ a := Nat.ne_of_gt (h _ m)
/-- all that stands in one heap stands in the other -/
abbrev Kp (h h' : Heap) : Prop := ∀ b o, h.get? b = some o → h'.get? b = some o

abbrev tupOf (vs : List Value) (n : Nat) : Obj := { cls := .type "tuple", data := .seq vs.toArray n }

abbrev PR : Program := PySem.Challenge.rw_hb0006_01.row.prog

/-- a call stands in a def's frame over this heap -/
def Here (w : World) (A : Around) (h : Heap) : Prop :=
  ∃ (dp un : Nat) (gd : Option (List Code)) (cn : Str) (cs : Scope) (L a : Addr) (ccd : Value) (cl : List (Str × Addr)) (outer : List Env) (A₀ : Around) (base h₀ : Heap) (m mg mb : Str → Option Value) (loose : List Str) (mean : ExcName → Option Value),
    A = ktrTop dp un gd cn cs L a ccd cl outer ∧ cs.kind = .function ∧ Below A₀ base outer h₀ ∧ Fr h₀ L h m ∧ (hd.heap_1 w.params).In h₀ ∧ Top topProg loose mean mg mb h₀

theorem Here.mk {w : World} {h : Heap} {dp un : Nat} {gd : Option (List Code)} {cn : Str} {cs : Scope} {L a : Addr} {ccd : Value} {cl : List (Str × Addr)} {outer : List Env} {A₀ : Around} {base h₀ : Heap} {m mg mb : Str → Option Value} {loose : List Str} {mean : ExcName → Option Value}
    (F : Fr h₀ L h m) (B : Below A₀ base outer h₀) (X : (hd.heap_1 w.params).In h₀) (T : Top topProg loose mean mg mb h₀) (hk : cs.kind = .function) :
    Here w (ktrTop dp un gd cn cs L a ccd cl outer) h := ⟨_, _, _, _, _, _, _, _, _, _, _, _, _, _, _, _, _, _, rfl, hk, B, F, X, T⟩
theorem Here.inn {w : World} {A : Around} {h : Heap} (H : Here w A h) : (hd.heap_1 w.params).In h := by
  obtain ⟨dp, un, gd, cn, cs, L, a, ccd, cl, outer, A₀, base, h₀, m, mg, mb, loose, mean, rfl, hck, B, F, X₀, T⟩ := H
  exact X₀.keeps F.keep

/-- room for calls n deep -/
def Room (A : Around) (n : Nat) : Prop := A.depth + n < recursionLimit ∧ A.units + 10 * n + 100 < cLine
theorem Room.deeper {A : Around} {n : Nat} (r : Room A (n + 1)) (env : Env) : Room (A.deeper env) n := by
  obtain ⟨a, b⟩ := r
  exact ⟨by show A.depth + 1 + n < _; omega, by show A.units + 3 + 10 * n + 100 < _; omega⟩
theorem Room.less {A : Around} {n k : Nat} (r : Room A n) (h : k ≤ n) : Room A k := by
  obtain ⟨a, b⟩ := r
  exact ⟨by omega, by omega⟩
theorem Room.room {A : Around} {n : Nat} (r : Room A (n + 1)) : A.depth < recursionLimit := by have := r.1; omega
theorem Room.roomD {A B : Around} {n : Nat} (r : Room A (n + 1)) (e : B.depth = A.depth) : B.depth < recursionLimit := by have := r.1; omega
theorem Room.units {A : Around} {n : Nat} (r : Room A n) : A.units + 64 < cLine := by have := r.2; omega
theorem Room.units1 {A : Around} {n : Nat} (r : Room A n) : A.units < cLine := by have := r.2; omega
theorem Room.units2 {A : Around} {n : Nat} (r : Room A n) : A.units + 1 < cLine := by have := r.2; omega

section
variable {w : World} {A : Around} {s : Shared}

/-- a def of the top is entered; all that stands at the call stays, and is the callee's base -/
theorem enterP {R : Result → Shared → Prop} {name qual : Str} {params : Arguments} {body : List Stmt} {scope : Scope} {dV kV doc pm cdv ct oc : Value} {an od : Option Addr} {osl : Array (Option Value)} {f : Addr} {args : Args} {binds : List (Str × Value)} {n : Nat}
    (H : Here w A s.heap) (r : Room A (n + 1))
    (ho : (hd.heap_1 w.params).lookup f = some ⟨oc, od, .func (fnOf name qual params body scope dV kV doc pm an cdv ct), osl⟩) (hcd : codeIn (hd.heap_1 w.params) cdv qual = true)
    (hbind : BindsTo s (fnOf name qual params body scope dV kV doc pm an cdv ct) args binds) (hloc : ∀ y ∈ binds, scope.names.lookup y.1 = some .local)
    (h : ∀ (dp un : Nat) (gd : Option (List Code)) (cn : Str) (cs : Scope) (L a : Addr) (ccd : Value) (cl : List (Str × Addr)) (outer : List Env) (base : Heap) (mg mb : Str → Option Value) (loose : List Str) (mean : ExcName → Option Value) L' h₁ (tk' : Nat), let A' := (ktrTop dp un gd cn cs L a ccd cl outer).deeper (envOf qual scope L' f cdv); let gs' := s.gens; let dr' := s.drawn; let os' := s.os;
      Room A' n → Fr s.heap L' h₁ (fun y => binds.reverse.lookup y) → News s.heap L' h₁ [] →
      Below (ktrTop dp un gd cn cs L a ccd cl outer) base (envX cn cs L a ccd cl :: outer) s.heap → (hd.heap_1 w.params).In s.heap → Top topProg loose mean mg mb s.heap →
      wpAny (model PR w) A' (execs body (envOf qual scope L' f cdv))
        (fun fl s' => R (.ok (.ret (match fl with | .ret v => v | _ => .none))) s')
        (fun e s' => wpAny (model PR w) A' (leaving (envOf qual scope L' f cdv) e) (fun _ s'' => R (.error e) s'') (fun e' s'' => R (.error e') s'') s')
        { heap := h₁, gens := gs', drawn := dr', toks := tk', os := os' })
    (hco : scope.isCoroutine = false) (hgen : scope.isGenerator = false) (hk : scope.kind = .function)
    (hcell : ∀ x ∈ scope.names, x.2 ≠ .cell) : codeAny (model PR w) A (.call (.ref f) args) R s := by
  obtain ⟨dp, un, gd, cn, cs, L, a, ccd, cl, outer, A₀, base, h₀, m, mg, mb, loose, mean, rfl, hck, B, F, X₀, T⟩ := H
  have B₁ := pushX (env := envX cn cs L a ccd cl) B F rfl hck
  refine codeAny_call_def (fd := fnOf name qual params body scope dV kV doc pm an cdv ct) (body := body) (binds := binds) r.room (F.keep _ _ (X₀ _ _ ho)) rfl (T.nolimit.keeps F.keep) (codeRec_of (X₀.keeps F.keep) hcd) rfl hbind hcell hloc (fun h₁ hns hk₁ => ?_) hco hgen hk
  exact h dp un gd cn cs L a ccd cl outer base mg mb loose mean s.heap.objs.size h₁ _ (r.deeper _) ⟨hns, hk₁, Nat.le_refl _⟩ News.nil ⟨rfl, B₁.stays, B₁.frames⟩ (X₀.keeps F.keep) (T.keeps F.keep)
end

theorem Kp.refl (h : Heap) : Kp h h := fun _ _ e => e
theorem Kp.trans {h h' h'' : Heap} (a : Kp h h') (b : Kp h' h'') : Kp h h'' := fun _ _ e => b _ _ (a _ _ e)

section
variable {hh h' : Heap} {g : Array GenState} {d : Drawn} {o : OsState} {Q : Value → Shared → Prop} {t : Tok} {tk' : Nat}
theorem endI {x y : Int} (hret : ∀ (t : Tok) (h' : Heap) (tk' : Nat), Kp hh h' → Q (.int x t) ⟨h', g, d, tk', o⟩) (e : y = x) (k : Kp hh h') : Q (.int y t) ⟨h', g, d, tk', o⟩ := by
  subst e
  exact hret t h' tk' k
theorem endB {x y : Bool} (hret : ∀ (h' : Heap) (tk' : Nat), Kp hh h' → Q (.bool x) ⟨h', g, d, tk', o⟩) (e : y = x) (k : Kp hh h') : Q (.bool y) ⟨h', g, d, tk', o⟩ := by
  subst e
  exact hret h' tk' k
theorem endL {L l : Addr} {m : Str → Option Value} {news : List (Addr × Obj)} {vs : List Value} {n : Nat} {ns : List Int} (hret : ∀ l vs n h' tk', Kp hh h' → hh.get? l = none → h'.get? l = some (listOf vs.toArray n) → IntsAre vs ns → Q (.ref l) ⟨h', g, d, tk', o⟩)
    (F : Fr hh L h' m) (N : News hh L h' news) (hm : (l, listOf vs.toArray n) ∈ news) (hi : IntsAre vs ns) : Q (.ref l) ⟨h', g, d, tk', o⟩ := hret l vs n h' tk' F.keep (N.fresh hm) (N.get hm) hi
theorem endV {v : Value} (hret : ∀ (h' : Heap) (tk' : Nat), Kp hh h' → Q v ⟨h', g, d, tk', o⟩) (k : Kp hh h') : Q v ⟨h', g, d, tk', o⟩ := hret h' tk' k
end

theorem isListOf {h : Heap} {l : Addr} {vs : List Value} {n : Nat} (e : h.get? l = some (listOf vs.toArray n)) : h.IsList l vs.toArray := ⟨_, e, rfl, n, rfl⟩
theorem instBase {g h : Heap} {L x C dx : Addr} {m : Str → Option Value} {od : Obj} {sl : Array (Option Value)} (F : Fr g L h m) (h1 : g.get? x = some (⟨.ref C, some dx, .plain, sl⟩ : Obj)) (h2 : g.get? dx = some od) :
    InstAt h x ⟨.ref C, some dx, .plain, sl⟩ C (some od) := ⟨F.keep _ _ h1, rfl, rfl, F.keep _ _ h2⟩

/-- the steps that change the frame or the ledger: what is new is a name (let), the number of tokens is forgotten -/
theorem storeX_T {M : Model} {A : Around} {E : Value → Shared → Prop} {Q : Unit → Shared → Prop} {h₀ : Heap} {cn : Str} {cs : Scope} {L a : Addr} {ccd : Value} {cl : List (Str × Addr)} {m : Str → Option Value} {news : List (Addr × Obj)} {x : Str} {v : Value} {s : Shared}
    (F : Fr h₀ L s.heap m) (N : News h₀ L s.heap news)
    (h : ∀ h' tk', let m' : Str → Option Value := fun y => if y = x then some v else m y; Fr h₀ L h' m' → News h₀ L h' news → Q () { s with heap := h', toks := tk' })
    (hk : cs.kind = .function) (hx : (envX cn cs L a ccd cl).kindOf x = some .local) : wpAny M A (storeName (envX cn cs L a ccd cl) x v) Q E s := storeX_L F N (fun h' F' N' => h h' _ F' N') hk hx
theorem newList_T {M : Model} {A : Around} {E : Value → Shared → Prop} {h₀ : Heap} {L : Addr} {m : Str → Option Value} {news : List (Addr × Obj)} {s : Shared} {vs : List Value} {Q : Value → Shared → Prop} (F : Fr h₀ L s.heap m) (N : News h₀ L s.heap news)
    (h : ∀ l h', let n' : List (Addr × Obj) := (l, listOf vs.toArray 0) :: news; Fr h₀ L h' m → News h₀ L h' n' → (∀ p ∈ news, p.1 < l) → Q (.ref l) { s with heap := h' }) (hsz : vs.length ≤ sizeLine) : wpAny M A (newList vs) Q E s := newList_K F N h hsz
theorem newTuple_T {M : Model} {A : Around} {E : Value → Shared → Prop} {h₀ : Heap} {L : Addr} {m : Str → Option Value} {news : List (Addr × Obj)} {s : Shared} {vs : List Value} {Q : Value → Shared → Prop} (F : Fr h₀ L s.heap m) (N : News h₀ L s.heap news)
    (h : ∀ D h', let n' : List (Addr × Obj) := (D, ({ cls := .type "tuple", data := .seq vs.toArray } : Obj)) :: news; Fr h₀ L h' m → News h₀ L h' n' → (∀ p ∈ news, p.1 < D) → Q (.ref D) { s with heap := h' }) (hz : vs.length ≤ sizeLine) : wpAny M A (newTuple vs) Q E s := kup_newTuple F N h hz
theorem append_T {prog : Program} {w : World} {A : Around} {E : Value → Shared → Prop} {h₀ : Heap} {L D : Addr} {m : Str → Option Value} {news news' : List (Addr × Obj)} {s : Shared} {its : Array Value} {n : Nat} {x : Value} {Q : Value → Shared → Prop} (F : Fr h₀ L s.heap m) (N : News h₀ L s.heap news) (U : Upd D (listOf its n) (listOf (its.push x) (n + 1)) news news')
    (h : ∀ h', let n' := news'; Fr h₀ L h' m → News h₀ L h' n' → Q .none { s with heap := h' }) (hsz : its.size ≤ sizeLine) : wpAny (model prog w) A (call (.builtin "list.append") [.ref D, x]) Q E s := append_K F N U h hsz
theorem kl_pop_T {prog : Program} {w : World} {A : Around} {E : Value → Shared → Prop} {h₀ : Heap} {L D : Addr} {m : Str → Option Value} {news news' : List (Addr × Obj)} {s : Shared} {its : Array Value} {n : Nat} {p : List Value} {y : Value} {Q : Value → Shared → Prop} (F : Fr h₀ L s.heap m) (N : News h₀ L s.heap news) (e : kl_last its.toList = some (p, y)) (U : Upd D (listOf its n) (listOf p.toArray (n + 1)) news news')
    (hz : its.toList.length ≤ sizeLine) (h : ∀ h', let n' := news'; Fr h₀ L h' m → News h₀ L h' n' → Q y { s with heap := h' }) : wpAny (model prog w) A (call (.builtin "list.pop") [.ref D]) Q E s := kl_pop F N e U hz h
theorem execs_cons_T {M : Model} {A : Around} {E : Value → Shared → Prop} {st : Stmt} {rest : List Stmt} {env : Env} {s : Shared} {Q : Flow → Shared → Prop}
    (h : let K : Flow → Shared → Prop := fun f s' => (match f with | .next => wpAny M A (execs rest env) Q E s' | f => Q f s'); wpAny M A (exec st env) K E s) : wpAny M A (execs (st :: rest) env) Q E s := wpAny_execs_cons h

end
local macro_rules | `(tactic| k_lt $_) => `(tactic| skip)
local macro_rules | `(tactic| k_ne) => `(tactic| first | (refine' ltAt ?la ?lm; (case la => with_reducible assumption); (case lm => k_mem)) | (refine' gtAt ?la ?lm; (case la => with_reducible assumption); (case lm => k_mem)) | (refine neN ?_; (try dsimp only); omega))
local macro_rules | `(tactic| walk_at "eval Name") => `(tactic| k_dflt (first
  | (refine' nameX_L ?F ?v ?_ ?a ?b; (case b => rfl); (case a => first | rfl | assumption); (case F => first | with_reducible assumption | assumption); (case v => rfl))
  | (refine' nameX_K ?F ?X ?T ?e ?_ ?a ?b; (case b => rfl); (case a => first | rfl | assumption); (case F => first | with_reducible assumption | assumption); (case X => with_reducible assumption); (case T => exact topRead_of (by with_reducible assumption)); (case e => k_is))
  | (refine' nameX_B ?F ?X ?T ?e ?v ?n ?_ ?a ?b; (case b => rfl); (case a => first | rfl | assumption); (case F => first | with_reducible assumption | assumption); (case X => with_reducible assumption); (case T => exact topRead_of (by with_reducible assumption)); (case e => k_is); (case v => boot_fast); (case n => decide))))
local macro_rules | `(tactic| walk_at "exec Assign") => `(tactic| ((with_reducible show wpAny _ _ (exec (Stmt.Assign [Expr.Name _ _] _ _) _) _ _ _); k_dflt (refine wpAny_Assign_Name ?_)))
local macro_rules | `(tactic| walk_at "eval Call") => `(tactic| k_dflt (refine Call_ ?_))
local macro_rules | `(tactic| walk_at "storeName") => `(tactic| k_dflt (refine' storeX_T ?F ?N ?_ ?a ?b; (case b => rfl); (case a => first | rfl | assumption); (case F => first | with_reducible assumption | assumption); (case N => first | with_reducible assumption | assumption); intro h' tk' m' F' N'; k_sweep))
local macro_rules | `(tactic| walk_at "exec If") => `(tactic| k_dflt (refine wpAny_If ?_))
local macro_rules | `(tactic| walk_at "isTrue Compare") => `(tactic| k_dflt (refine wpAny_isTrue_Compare1 ?_))
local macro_rules | `(tactic| walk_at "eval BinOp") => `(tactic| k_dflt (refine wpAny_BinOp ?_))
local macro_rules | `(tactic| walk_at "eval Subscript") => `(tactic| k_dflt (refine Subscript_ ?_))
local macro_rules | `(tactic| walk_at "execs cons") => `(tactic| (k_dflt (refine execs_cons_T ?_); intro K'))
local macro_rules | `(tactic| walk1) => `(tactic| (k_unfold; (try dsimp only); walk1))
local macro_rules | `(tactic| ktr_rel) => `(tactic| first | (with_reducible assumption) | exact Here.mk (by with_reducible assumption) (by with_reducible assumption) (by with_reducible assumption) (by with_reducible assumption) (by first | rfl | assumption) | exact Here.mk (by assumption) (by with_reducible assumption) (by with_reducible assumption) (by with_reducible assumption) (by first | rfl | assumption))
local macro_rules | `(tactic| walk_at "subscriptTail Name Name ref int") => `(tactic| k_dflt (refine' item_list_ints ?k1 ?k2 ?k3 ?k4 ?k5 ?_; (case k1 => is_list); (case k2 => l_ints); (case k3 => first | k_extra "idx" | omega); (case k4 => first | k_extra "idx" | omega); (case k5 => first | k_extra "idx" | omega); intro t'))
local macro_rules | `(tactic| tb_start) => `(tactic| (intro k9; (have F9 := Fr.keeps (by with_reducible assumption) k9); (have N9 := News.grown (by with_reducible assumption) k9); clear k9; k_sweep))
local macro_rules | `(tactic| ktr_room) => `(tactic| first | assumption | exact Room.less (by assumption) (by decide))
local macro_rules | `(tactic| walk_at "subscriptTail") => `(tactic| ((with_reducible show wpAny _ _ (subscriptTail _ _ (Value.ref _) (Value.int _ _)) _ _ _); k_dflt (refine' item_list ?l ?a ?b ?x ?_; (case l => is_list); (case x => (first | k_extra "item" | (simp only [List.getElem?_toArray]; k_extra "item"))); (case a => first | assumption | omega); (case b => first | assumption | omega))))
local macro_rules | `(tactic| ke_room) => `(tactic| exact Room.units (by assumption))
local macro_rules | `(tactic| k_units) => `(tactic| exact Room.units1 (by assumption))
local macro_rules | `(tactic| walk_at "exec For Name Subscript") => `(tactic| ((rename Fr _ _ _ _ => lF'); (with_unfolding_all refine' For_turns lF' ?_; k_whole)))
local macro_rules | `(tactic| k_room) => `(tactic| (refine' Room.roomD ?r ?e; (case r => assumption); (case e => rfl)))
local macro_rules | `(tactic| k_inst) => `(tactic| (refine' instBase ?F ?a ?b; (case F => with_reducible assumption); (case a => with_reducible assumption); (case b => with_reducible assumption)))
local macro_rules | `(tactic| walk_at "newList") => `(tactic| (k_dflt (refine' newList_T ?k1 ?k2 ?_ ?z; (case k1 => k_asm); (case k2 => k_asm); (case z => size_fits)); intro l' h' n' F' N' l1; k_sweep))
local macro_rules | `(tactic| walk_at "call builtin:list.append") => `(tactic| ((with_reducible show wpAny _ _ (call (Value.builtin _) [Value.ref _, _]) _ _ _); k_dflt (refine' append_T ?k1 ?k2 ?k3 ?_ ?z; (case k1 => k_asm); (case k2 => k_asm); (case k3 => k_upd); (case z => size_fits); k_whole); intro h' n' F' N'; k_sweep))
local macro_rules | `(tactic| walk_at "call builtin:list.pop") => `(tactic| (k_dflt ((with_reducible show wpAny _ _ (call (Value.builtin _) [Value.ref _]) _ _ _); refine' kl_pop_T ?F ?N ?e ?U ?z ?_; (case F => k_asm); (case N => k_asm); (case U => k_upd); (case e => rfl); (case z => kl_room); k_whole); intro h' n' F' N'; k_sweep))
local macro_rules | `(tactic| walk_at "newTuple") => `(tactic| (k_dflt (refine' newTuple_T ?F ?N ?_ ?z; (case F => k_asm); (case N => k_asm); (case z => kmk_size)); intro D' h' n' F' N' l1; k_sweep))
section
theorem off_nesz : True := by
  w_top off
  trivial
theorem neLen {prog : Program} {w : World} {A : Around} {E : Value → Shared → Prop} {s : Shared} {a b : Addr} {xs ys : Array Value} {Q : Value → Shared → Prop} (ha : s.heap.IsList a xs) (hb : s.heap.IsList b ys) (hn : (xs.size != ys.size) = true) (hu : A.units < cLine) (h : Q (.bool true) s) :
    wpAny (model prog w) A (compareOp .NotEq (.ref a) (.ref b)) Q E s := PySem.SeqAt.RcNeAt.lists_lengths ha hb hn hu prog w E Q h
local macro_rules | `(tactic| walk_at "compareOp NotEq ref ref") => `(tactic| k_dflt (refine' neLen ?a ?b ?n ?u ?_; (case a => is_list); (case b => is_list); (case n => rfl); (case u => exact Room.units1 (by assumption))))

end
local macro_rules | `(tactic| walk_at "zz") => `(tactic| fail)
local macro_rules | `(tactic| walk_at "zz") => `(tactic| fail)
local macro_rules | `(tactic| walk_at "compareOp NotEq ref ref") => `(tactic| k_dflt (refine' neLen ?a ?b ?n ?u ?_; (case a => is_list); (case b => is_list); (case n => rfl); (case u => exact Room.units1 (by assumption))))
section
theorem off_pbh : True := by
  w_top off
  trivial
local macro_rules | `(tactic| walk_at "storeName") => `(tactic| k_dflt (refine' storeX_L ?F ?N ?_ ?a ?b; (case b => rfl); (case a => first | rfl | assumption); (case F => first | with_reducible assumption | assumption); (case N => first | with_reducible assumption | assumption); intro h' F' N'; k_sweep))
def pbhGo (ns : List Int) (x : Int) : Nat → Int → Int → Int
  | 0, low, _ => low
  | f + 1, low, high => if low < high then (if ns.getD (Int.fdiv (low + high) 2).toNat 0 ≤ x then pbhGo ns x f (Int.fdiv (low + high) 2 + 1) high else pbhGo ns x f low (Int.fdiv (low + high) 2)) else low
/-- what place_by_half gives back -/
def pbh (ns : List Int) (x : Int) : Int := pbhGo ns x ns.length 0 ns.length - 1

def PbhInv (ns : List Int) (x low high : Int) : Prop := 0 ≤ low ∧ low ≤ high ∧ high ≤ (ns.length : Int) ∧ ∃ f : Nat, high - low ≤ (f : Int) ∧ pbhGo ns x f low high = pbhGo ns x ns.length 0 ns.length
theorem PbhInv.start (ns : List Int) (x : Int) : PbhInv ns x 0 (ns.length : Int) := ⟨by omega, by omega, by omega, ns.length, by omega, rfl⟩
theorem PbhInv.up {ns : List Int} {x low high : Int} (h : PbhInv ns x low high) (hlt : low < high) (hc : ns.getD (Int.fdiv (low + high) 2).toNat 0 ≤ x) : PbhInv ns x (Int.fdiv (low + high) 2 + 1) high := by
  obtain ⟨a, b, c, f, d, e⟩ := h
  have h2 : Int.fdiv (low + high) 2 = (low + high) / 2 := Int.fdiv_eq_ediv_of_nonneg _ (by omega)
  cases f with
  | zero => omega
  | succ f =>
    refine ⟨by omega, by omega, c, f, by omega, ?_⟩
    rw [← e, pbhGo, if_pos hlt, if_pos hc]
theorem PbhInv.down {ns : List Int} {x low high : Int} (h : PbhInv ns x low high) (hlt : low < high) (hc : ¬ ns.getD (Int.fdiv (low + high) 2).toNat 0 ≤ x) : PbhInv ns x low (Int.fdiv (low + high) 2) := by
  obtain ⟨a, b, c, f, d, e⟩ := h
  have h2 : Int.fdiv (low + high) 2 = (low + high) / 2 := Int.fdiv_eq_ediv_of_nonneg _ (by omega)
  cases f with
  | zero => omega
  | succ f =>
    refine ⟨a, by omega, by omega, f, by omega, ?_⟩
    rw [← e, pbhGo, if_pos hlt, if_neg hc]
theorem PbhInv.stop {ns : List Int} {x low high : Int} (h : PbhInv ns x low high) (hlt : ¬ low < high) : low - 1 = pbh ns x := by
  obtain ⟨a, b, c, f, d, e⟩ := h
  unfold pbh
  rw [← e]
  cases f with
  | zero => rfl
  | succ f => rw [pbhGo, if_neg hlt]
theorem PbhInv.half {ns : List Int} {x low high : Int} (h : PbhInv ns x low high) : Int.fdiv (low + high) 2 = (low + high) / 2 := Int.fdiv_eq_ediv_of_nonneg _ (by obtain ⟨a, b, c, _⟩ := h; omega)
theorem PbhInv.mid {ns : List Int} {x low high : Int} (h : PbhInv ns x low high) (hlt : low < high) : 0 ≤ Int.fdiv (low + high) 2 ∧ Int.fdiv (low + high) 2 < (ns.length : Int) := by
  obtain ⟨a, b, c, f, d, e⟩ := h
  have h2 : Int.fdiv (low + high) 2 = (low + high) / 2 := Int.fdiv_eq_ediv_of_nonneg _ (by omega)
  omega

theorem pbh_call {w : World} {A : Around} {s : Shared} {Q E : Value → Shared → Prop} {l : Addr} {vs : List Value} {ns : List Int} {x : Int} {t : Tok}
    (H : Here w A s.heap) (R : Room A 1) (hl : s.heap.IsList l vs.toArray) (hi : IntsAre vs ns) (hlen : ns.length < 2 ^ 62)
    (ret : ∀ t h' tk', Kp s.heap h' → Q (.int (pbh ns x) t) { s with heap := h', toks := tk' }) :
    wpAny (model PR w) A (call (.ref 61) [.ref l, .int x t]) Q E s := by
  refine wpAny_call ?_
  k_dflt (refine' enterP ?enH1 ?enR1 ?en61 ?en71 ?en91 ?enB1 ?_ ?ec21 ?ec31 ?ec41 ?ec51; (case enH1 => assumption); (case enR1 => assumption); (case en61 => k_is); (case en71 => k_is); (case en91 => first | exact BindsTo.of_eq rfl | exact binds_K (by assumption) rfl (by k_is) rfl rfl rfl); (case ec51 => decide); (case enB1 => exact locs rfl); (case ec21 => exact rfl); (case ec31 => exact rfl); (case ec41 => exact rfl); k_whole; intro enq01 enq02 enq03 enq04 enq05 enq06 enq07 enq08 enq09 enq10 enq11 enq12 enq13 enq14 enq15 enq16 enq17 enq18 enq19 enq20 enq21 enq22 enq23 enq24 enq25 enq26 enq27 enq28; (try dsimp only); (try k_fold))
  clear H
  k_with "exec While Compare cons nil" => k_while (fun _ low high => PbhInv ns x low high) (fun _ low high => (high - low).toNat) "low" "high"
  k_with "state" => exact PbhInv.start ns x
  k_with "state" => first | exact PbhInv.up kInv (by assumption) (by assumption) | exact PbhInv.down kInv (by assumption) (by assumption)
  k_with "measure" => ((have hm9 := PbhInv.mid kInv (by assumption)); (have hv9 := kInv); (obtain ⟨p1, p2, p3, p4⟩ := hv9); (have h29 := PbhInv.half kInv); omega)
  k_with "idx" => ((have hm9 := PbhInv.mid kInv (by assumption)); omega)
  (repeat' (first | (k_unfold; (try dsimp only)) | walk1 | (dsimp only; walk1) | (leave1; (try dsimp only))))
  all_goals (refine' endI (Q := Q) ret ?e (Fr.keep (by with_reducible assumption)); exact PbhInv.stop kInv (by assumption))

end
local macro_rules | `(tactic| walk_at "zz") => `(tactic| fail)
local macro_rules | `(tactic| walk_at "zz") => `(tactic| fail)
local macro_rules | `(tactic| walk_at "call ref") => `(tactic| ((with_reducible show wpAny _ _ (call (Value.ref 61) _) _ _ _); k_dflt (refine' pbh_call ?kH ?kR ?kl ?ki ?kn ?_; (case kH => ktr_rel); (case kR => ktr_room); (case kl => is_list); (case ki => l_ints); (case kn => first | omega | k_extra "len"); intro t9 h9 tk9; tb_start)))
section
theorem off_rget : True := by
  w_top off
  trivial
/-- a RangeMap stands at r -/
structure RAt (h : Heap) (r : Addr) (ns : List Int) (vs : List Value) (dflt : Value) (dx st vl : Addr) : Prop where
  inst : h.get? r = some (instObj 278 dx)
  dict : ∃ h1 h2 h3 t1 t2 t3 n, h.get? dx = some (dictOf [⟨h1, .str (Str.ofString "default") t1, dflt⟩, ⟨h2, .str (Str.ofString "starts") t2, .ref st⟩, ⟨h3, .str (Str.ofString "values") t3, .ref vl⟩] n)
  starts : ∃ sv n, h.get? st = some (listOf sv.toArray n) ∧ IntsAre sv ns
  values : ∃ n, h.get? vl = some (listOf vs.toArray n)
theorem RAt.mono {h h' : Heap} {r dx st vl : Addr} {ns : List Int} {vs : List Value} {dflt : Value} (a : RAt h r ns vs dflt dx st vl) (k : Kp h h') : RAt h' r ns vs dflt dx st vl :=
  ⟨k _ _ a.inst, let ⟨h1, h2, h3, t1, t2, t3, n, e⟩ := a.dict; ⟨h1, h2, h3, t1, t2, t3, n, k _ _ e⟩, let ⟨sv, n, e, i⟩ := a.starts; ⟨sv, n, k _ _ e, i⟩, let ⟨n, e⟩ := a.values; ⟨n, k _ _ e⟩⟩

theorem rget_call {w : World} {A : Around} {s : Shared} {Q E : Value → Shared → Prop} {r dx st vl : Addr} {vs : List Value} {ns : List Int} {x : Int} {t : Tok} {v dflt : Value}
    (H : Here w A s.heap) (R : Room A 2) (D : RAt s.heap r ns vs dflt dx st vl) (hlen : ns.length < 2 ^ 62) (h0 : 0 ≤ pbh ns x) (h1 : pbh ns x < 2 ^ 63) (hx : vs[(pbh ns x).toNat]? = some v)
    (ret : ∀ h' tk', Kp s.heap h' → Q v { s with heap := h', toks := tk' }) :
    wpAny (model PR w) A (call (.ref 256) [.ref r, .int x t]) Q E s := by
  obtain ⟨d1, ⟨a1, a2, a3, t1, t2, t3, n, d2⟩, ⟨sv, n1, d3, d4⟩, ⟨n2, d5⟩⟩ := D
  have l1 := isListOf d3
  have l2 := isListOf d5
  refine wpAny_call ?_
  k_dflt (refine' enterP ?enH2 ?enR2 ?en62 ?en72 ?en92 ?enB2 ?_ ?ec22 ?ec32 ?ec42 ?ec52; (case enH2 => assumption); (case enR2 => assumption); (case en62 => k_is); (case en72 => k_is); (case en92 => first | exact BindsTo.of_eq rfl | exact binds_K (by assumption) rfl (by k_is) rfl rfl rfl); (case ec52 => decide); (case enB2 => exact locs rfl); (case ec22 => exact rfl); (case ec32 => exact rfl); (case ec42 => exact rfl); k_whole; intro enq01 enq02 enq03 enq04 enq05 enq06 enq07 enq08 enq09 enq10 enq11 enq12 enq13 enq14 enq15 enq16 enq17 enq18 enq19 enq20 enq21 enq22 enq23 enq24 enq25 enq26 enq27 enq28; (try dsimp only); (try k_fold))
  clear H
  k_with "item" => exact hx
  (repeat' (first | (k_unfold; (try dsimp only)) | walk1 | (dsimp only; walk1) | (leave1; (try dsimp only))))
  all_goals exact endV (Q := Q) ret (Fr.keep (by with_reducible assumption))

end
section
theorem off_dget : True := by
  w_top off
  trivial
section
variable {prog : Program} {w : World} {K : Type} [DecidableEq K] {knd : KeyKind prog w K} {A : Around} {E : Value → Shared → Prop} {s : Shared} {d : Addr} {kvs : List (K × Value)} {k : K} {key v dflt : Value} {Q : Value → Shared → Prop}
theorem dictKeep {h h' : Heap} (a : h.DictOf knd d kvs) (k : Kp h h') : h'.DictOf knd d kvs :=
  let ⟨o, es, ep, e, r⟩ := a; ⟨o, es, ep, k _ _ e, r⟩
theorem hd_item {value slice : PySem.Expr} (D : s.heap.DictOf knd d kvs) (hkey : knd.is k key = true) (hl : valueAt kvs k = some v) (h : Q v { s with toks := s.toks + 1 })
    (hs : subscripted slice false (.ref d) key = operate [.ref d, key] (getItem (.ref d) key) := by with_unfolding_all rfl) : wpAny (model prog w) A (subscriptTail value slice (.ref d) key) Q E s :=
  tail_any D.typeIs slot_dict_getitem.lookup (wpAny_getItem_of hkey D.mapOf hl h) hs
theorem hd_in (D : s.heap.DictOf knd d kvs) (lo : (d == sysModules) = false) (hkey : knd.is k key = true) (b : Bool) (hb : (valueAt kvs k).isSome = b) (h : Q (.bool b) { s with toks := s.toks + 1 }) :
    wpAny (model prog w) A (compareOp .In key (.ref d)) Q E s := wpAny_in_of hkey lo D.mapOf (by rw [hb]; exact h)
theorem hd_method {pl : Sem Bool} {Q : Value × List Value → Shared → Prop} (D : s.heap.DictOf knd d kvs) (h : Q (.builtin "dict.get", [.ref d]) s) : wpAny (model prog w) A (getMethod (.ref d) "get" pl) Q E s :=
  getMethod_builtin D.typeIs PySem.F.plainAttrs_dict PySem.F.slot_dict_get PySem.F.type_dict_get D.mapOf.noDict h
theorem hd_get1 (D : s.heap.DictOf knd d kvs) (lo : (d == sysModules) = false) (hkey : knd.is k key = true) (x : Option Value) (hl : valueAt kvs k = x) (h : Q (x.getD .none) { s with toks := s.toks + 1 }) :
    wpAny (model prog w) A (call (.builtin "dict.get") [.ref d, key]) Q E s :=
  call_meetsIn PySem.F.slot_dict_get D.typeIs PySem.F.entry_dict_get (PySem.F.args_dict_get_2 _ _) (meets_dict_get knd d hkey lo) ⟨_, D.mapOf, by rw [hl]; exact h⟩
theorem hd_get2 (D : s.heap.DictOf knd d kvs) (lo : (d == sysModules) = false) (hkey : knd.is k key = true) (x : Option Value) (hl : valueAt kvs k = x) (h : Q (x.getD dflt) { s with toks := s.toks + 1 }) :
    wpAny (model prog w) A (call (.builtin "dict.get") [.ref d, key, dflt]) Q E s :=
  call_meetsIn PySem.F.slot_dict_get D.typeIs PySem.F.entry_dict_get (PySem.F.args_dict_get_3 _ _ _) (meets_dict_get_default knd d hkey lo dflt) ⟨_, D.mapOf, by rw [hl]; exact h⟩
end

/-- where the parts of the data stand -/
structure DP where
  dd : Addr
  df : Addr
  mp : Addr
  r1 : Addr
  x1 : Addr
  s1 : Addr
  v1 : Addr
  r2 : Addr
  x2 : Addr
  s2 : Addr
  v2 : Addr
  r3 : Addr
  x3 : Addr
  s3 : Addr
  v3 : Addr
  t1 : Addr
  t2 : Addr
  t3 : Addr
  t4 : Addr
  t5 : Addr

abbrev nsC : List Int := [0, 769, 770]
abbrev nsD : List Int := [0, 201, 202, 233, 234, 8544, 8545, 8560, 8561, 64257, 64258]
abbrev nsF : List Int := [0, 69, 70, 73, 74, 201, 202, 8544, 8545]
abbrev vsD (a : DP) : List Value := [.none, .ref a.t1, .none, .ref a.t2, .none, .ref a.t3, .none, .ref a.t4, .none, .ref a.t5, .none]
abbrev vsF : List Value := [.none, .ref 349, .none, .ref 350, .none, .ref 351, .none, .ref 348, .none]
abbrev mapsOf (a : DP) : List (Str × Value) := [(Str.ofString "ccc", .ref a.r1), (Str.ofString "dm", .ref a.r2), (Str.ofString "nfkc_cf", .ref a.r3)]


/-- the data of the law stand at d -/
structure DAt (w : World) (h : Heap) (d : Addr) (a : DP) : Prop where
  inst : h.get? d = some (instObj 334 a.dd)
  dict : ∃ h1 h2 h3 h4 t1 t2 t3 t4 p q n, h.get? a.dd = some (dictOf [⟨h1, .str (Str.ofString "defaults") t1, .ref a.df⟩, ⟨h2, .str (Str.ofString "maps") t2, .ref a.mp⟩, ⟨h3, .str (Str.ofString "properties") t3, .ref p⟩, ⟨h4, .str (Str.ofString "words") t4, .ref q⟩] n)
  dflt : ∃ kvs, h.DictOf (PySem.strKind PR w) a.df kvs ∧ valueAt kvs (Str.ofString "ex") = some (.bool false)
  lodf : (a.df == sysModules) = false
  maps : h.DictOf (PySem.strKind PR w) a.mp (mapsOf a)
  lomp : (a.mp == sysModules) = false
  ccc : ∃ x y z t, RAt h a.r1 nsC [.int 0 x, .int 230 y, .int 0 z] (.int 0 t) a.x1 a.s1 a.v1
  dm : RAt h a.r2 nsD (vsD a) .none a.x2 a.s2 a.v2
  cf : RAt h a.r3 nsF vsF .none a.x3 a.s3 a.v3
  t1 : ∃ t n, h.get? a.t1 = some (tupOf [.str (Str.ofString "") t, .ref 342] n)
  t2 : ∃ t n, h.get? a.t2 = some (tupOf [.str (Str.ofString "") t, .ref 341] n)
  t3 : ∃ t n, h.get? a.t3 = some (tupOf [.str (Str.ofString "compat") t, .ref 345] n)
  t4 : ∃ t n, h.get? a.t4 = some (tupOf [.str (Str.ofString "compat") t, .ref 346] n)
  t5 : ∃ t n, h.get? a.t5 = some (tupOf [.str (Str.ofString "compat") t, .ref 344] n)
theorem DAt.mono {w : World} {h h' : Heap} {d : Addr} {a : DP} (D : DAt w h d a) (k : Kp h h') : DAt w h' d a where
  inst := k _ _ D.inst
  dict := let ⟨h1, h2, h3, h4, t1, t2, t3, t4, p, q, n, e⟩ := D.dict; ⟨h1, h2, h3, h4, t1, t2, t3, t4, p, q, n, k _ _ e⟩
  dflt := let ⟨kvs, e, r⟩ := D.dflt; ⟨kvs, dictKeep e k, r⟩
  lodf := D.lodf
  maps := dictKeep D.maps k
  lomp := D.lomp
  ccc := let ⟨x, y, z, t, e⟩ := D.ccc; ⟨x, y, z, t, e.mono k⟩
  dm := D.dm.mono k
  cf := D.cf.mono k
  t1 := let ⟨t, n, e⟩ := D.t1; ⟨t, n, k _ _ e⟩
  t2 := let ⟨t, n, e⟩ := D.t2; ⟨t, n, k _ _ e⟩
  t3 := let ⟨t, n, e⟩ := D.t3; ⟨t, n, k _ _ e⟩
  t4 := let ⟨t, n, e⟩ := D.t4; ⟨t, n, k _ _ e⟩
  t5 := let ⟨t, n, e⟩ := D.t5; ⟨t, n, k _ _ e⟩


theorem dget_call {w : World} {A : Around} {s : Shared} {Q E : Value → Shared → Prop} {d r dx st vl : Addr} {a : DP} {vs : List Value} {ns : List Int} {x : Int} {t u : Tok} {name : Str} {v dflt : Value}
    (H : Here w A s.heap) (R : Room A 3) (D : DAt w s.heap d a) (hm : valueAt (mapsOf a) name = some (.ref r)) (RA : RAt s.heap r ns vs dflt dx st vl) (hlen : ns.length < 2 ^ 62) (h0 : 0 ≤ pbh ns x) (h1 : pbh ns x < 2 ^ 63) (hx : vs[(pbh ns x).toNat]? = some v)
    (ret : ∀ h' tk', Kp s.heap h' → Q v { s with heap := h', toks := tk' }) :
    wpAny (model PR w) A (call (.ref 324) [.ref d, .str name u, .int x t]) Q E s := by
  have hin : (valueAt (mapsOf a) name).isSome = true := by rw [hm]; rfl
  obtain ⟨r1, ⟨b1, b2, b3, t1, t2, t3, n, r2⟩, _, _⟩ := id RA
  obtain ⟨i1, ⟨a1, a2, a3, a4, t1, t2, t3, t4, p, q, n, i2⟩, _, _, i3, i4, _⟩ := D
  refine wpAny_call ?_
  k_dflt (refine' enterP ?enH3 ?enR3 ?en63 ?en73 ?en93 ?enB3 ?_ ?ec23 ?ec33 ?ec43 ?ec53; (case enH3 => assumption); (case enR3 => assumption); (case en63 => k_is); (case en73 => k_is); (case en93 => first | exact BindsTo.of_eq rfl | exact binds_K (by assumption) rfl (by k_is) rfl rfl rfl); (case ec53 => decide); (case enB3 => exact locs rfl); (case ec23 => exact rfl); (case ec33 => exact rfl); (case ec43 => exact rfl); k_whole; intro enq01 enq02 enq03 enq04 enq05 enq06 enq07 enq08 enq09 enq10 enq11 enq12 enq13 enq14 enq15 enq16 enq17 enq18 enq19 enq20 enq21 enq22 enq23 enq24 enq25 enq26 enq27 enq28; (try dsimp only); (try k_fold))
  clear H
  k_with "in" => exact hin
  k_with "val" => exact hm
  (repeat' (first | (k_unfold; (try dsimp only)) | ((with_reducible show wpAny _ _ (compareOp .In (Value.str _ _) (Value.ref _)) _ _ _); k_dflt (refine' hd_in (by exact dictKeep (by with_reducible assumption) (Fr.keep (by with_reducible assumption))) (by assumption) (strKind_is _ _ _ _) true (by k_extra "in") ?_)) | ((with_reducible show wpAny _ _ (subscriptTail _ _ (Value.ref _) (Value.str _ _)) _ _ _); k_dflt (refine' hd_item (knd := PySem.strKind PR _) (by exact dictKeep (by with_reducible assumption) (Fr.keep (by with_reducible assumption))) (strKind_is _ _ _ _) (by k_extra "val") ?_)) | ((with_reducible show wpAny _ _ (call (Value.ref 256) _) _ _ _); k_dflt (refine' rget_call (by ktr_rel) (by ktr_room) (by exact RAt.mono (by with_reducible assumption) (Fr.keep (by with_reducible assumption))) (by with_reducible assumption) (by with_reducible assumption) (by with_reducible assumption) (by with_reducible assumption) ?_); intro h9 tk9; tb_start) | walk1 | (dsimp only; walk1) | (leave1; (try dsimp only))))
  all_goals exact endV (Q := Q) ret (Fr.keep (by with_reducible assumption))

theorem dget_ex {w : World} {A : Around} {s : Shared} {Q E : Value → Shared → Prop} {d : Addr} {a : DP} {x : Int} {t u : Tok}
    (H : Here w A s.heap) (R : Room A 3) (D : DAt w s.heap d a)
    (ret : ∀ h' tk', Kp s.heap h' → Q (.bool false) { s with heap := h', toks := tk' }) :
    wpAny (model PR w) A (call (.ref 324) [.ref d, .str (Str.ofString "ex") u, .int x t]) Q E s := by
  have hin : (valueAt (mapsOf a) (Str.ofString "ex")).isSome = false := by rfl
  obtain ⟨i1, ⟨a1, a2, a3, a4, t1, t2, t3, t4, p, q, n, i2⟩, ⟨kvs, i5, i6⟩, i7, i3, i4, _⟩ := D
  refine wpAny_call ?_
  k_dflt (refine' enterP ?enH4 ?enR4 ?en64 ?en74 ?en94 ?enB4 ?_ ?ec24 ?ec34 ?ec44 ?ec54; (case enH4 => assumption); (case enR4 => assumption); (case en64 => k_is); (case en74 => k_is); (case en94 => first | exact BindsTo.of_eq rfl | exact binds_K (by assumption) rfl (by k_is) rfl rfl rfl); (case ec54 => decide); (case enB4 => exact locs rfl); (case ec24 => exact rfl); (case ec34 => exact rfl); (case ec44 => exact rfl); k_whole; intro enq01 enq02 enq03 enq04 enq05 enq06 enq07 enq08 enq09 enq10 enq11 enq12 enq13 enq14 enq15 enq16 enq17 enq18 enq19 enq20 enq21 enq22 enq23 enq24 enq25 enq26 enq27 enq28; (try dsimp only); (try k_fold))
  clear H
  k_with "in" => exact hin
  k_with "val" => exact i6
  (repeat' (first | (k_unfold; (try dsimp only)) | ((with_reducible show wpAny _ _ (compareOp .In (Value.str _ _) (Value.ref _)) _ _ _); k_dflt (refine' hd_in (by exact dictKeep (by with_reducible assumption) (Fr.keep (by with_reducible assumption))) (by assumption) (strKind_is _ _ _ _) false (by k_extra "in") ?_)) | ((with_reducible show wpAny _ _ (getMethod (Value.ref _) (Str.ofString "get") _) _ _ _); k_dflt (refine' hd_method (knd := PySem.strKind PR _) (by exact dictKeep (by with_reducible assumption) (Fr.keep (by with_reducible assumption))) ?_)) | ((with_reducible show wpAny _ _ (call (Value.builtin "dict.get") [Value.ref _, Value.str _ _]) _ _ _); k_dflt (refine' hd_get1 (by exact dictKeep (by with_reducible assumption) (Fr.keep (by with_reducible assumption))) (by assumption) (strKind_is _ _ _ _) (some _) (by k_extra "val") ?_)) | walk1 | (dsimp only; walk1) | (leave1; (try dsimp only))))
  all_goals exact endV (Q := Q) ret (Fr.keep (by with_reducible assumption))

/-- the codes that the law's texts hold -/
abbrev codes : List Int := [64257, 8544, 8560, 101, 769, 233, 69, 73, 201, 102, 105]
def cccF (c : Int) : Int := if c = 769 then 230 else 0
def dmV (a : DP) (c : Int) : Value := if c = 201 then .ref a.t1 else if c = 233 then .ref a.t2 else if c = 8544 then .ref a.t3 else if c = 8560 then .ref a.t4 else if c = 64257 then .ref a.t5 else .none
def cfV (c : Int) : Value := if c = 69 then .ref 349 else if c = 73 then .ref 350 else if c = 201 then .ref 351 else if c = 8544 then .ref 348 else .none

theorem pbhC : ∀ c ∈ codes, (pbh nsC c = 0 ∧ cccF c = 0) ∨ (pbh nsC c = 1 ∧ cccF c = 230) ∨ (pbh nsC c = 2 ∧ cccF c = 0) := by decide +kernel
theorem pbhD : ∀ c ∈ codes, 0 ≤ pbh nsD c ∧ pbh nsD c < 2 ^ 63 := by decide +kernel
theorem pbhF : ∀ c ∈ codes, 0 ≤ pbh nsF c ∧ pbh nsF c < 2 ^ 63 := by decide +kernel
theorem pbhDv {a : DP} {c : Int} (h : c ∈ codes) : (vsD a)[(pbh nsD c).toNat]? = some (dmV a c) := by
  simp only [codes, List.mem_cons, List.not_mem_nil, or_false] at h
  rcases h with rfl | rfl | rfl | rfl | rfl | rfl | rfl | rfl | rfl | rfl | rfl <;> rfl
theorem pbhFv {c : Int} (h : c ∈ codes) : vsF[(pbh nsF c).toNat]? = some (cfV c) := by
  simp only [codes, List.mem_cons, List.not_mem_nil, or_false] at h
  rcases h with rfl | rfl | rfl | rfl | rfl | rfl | rfl | rfl | rfl | rfl | rfl <;> rfl

section
variable {w : World} {A : Around} {s : Shared} {Q E : Value → Shared → Prop} {d : Addr} {a : DP} {x : Int} {t u : Tok}
theorem dget_ccc (H : Here w A s.heap) (R : Room A 3) (D : DAt w s.heap d a) (hx : x ∈ codes)
    (ret : ∀ t h' tk', Kp s.heap h' → Q (.int (cccF x) t) { s with heap := h', toks := tk' }) :
    wpAny (model PR w) A (call (.ref 324) [.ref d, .str (Str.ofString "ccc") u, .int x t]) Q E s := by
  obtain ⟨p, q, r, z, C⟩ := D.ccc
  have hl : nsC.length < 2 ^ 62 := by decide
  rcases pbhC x hx with ⟨e, e2⟩ | ⟨e, e2⟩ | ⟨e, e2⟩
  · exact dget_call H R D (by rfl) C hl (by rw [e]; decide) (by rw [e]; decide) (by rw [e]; rfl) (by rw [e2] at ret; exact ret _)
  · exact dget_call H R D (by rfl) C hl (by rw [e]; decide) (by rw [e]; decide) (by rw [e]; rfl) (by rw [e2] at ret; exact ret _)
  · exact dget_call H R D (by rfl) C hl (by rw [e]; decide) (by rw [e]; decide) (by rw [e]; rfl) (by rw [e2] at ret; exact ret _)
theorem dget_dm (H : Here w A s.heap) (R : Room A 3) (D : DAt w s.heap d a) (hx : x ∈ codes)
    (ret : ∀ h' tk', Kp s.heap h' → Q (dmV a x) { s with heap := h', toks := tk' }) :
    wpAny (model PR w) A (call (.ref 324) [.ref d, .str (Str.ofString "dm") u, .int x t]) Q E s :=
  dget_call H R D (by rfl) D.dm (by decide) (pbhD x hx).1 (pbhD x hx).2 (pbhDv hx) ret
theorem dget_dmE {v : Value} (H : Here w A s.heap) (R : Room A 3) (D : DAt w s.heap d a) (hx : x ∈ codes) (hv : dmV a x = v)
    (ret : ∀ h' tk', Kp s.heap h' → Q v { s with heap := h', toks := tk' }) :
    wpAny (model PR w) A (call (.ref 324) [.ref d, .str (Str.ofString "dm") u, .int x t]) Q E s := by
  subst hv
  exact dget_dm H R D hx ret
theorem dget_cf (H : Here w A s.heap) (R : Room A 3) (D : DAt w s.heap d a) (hx : x ∈ codes)
    (ret : ∀ h' tk', Kp s.heap h' → Q (cfV x) { s with heap := h', toks := tk' }) :
    wpAny (model PR w) A (call (.ref 324) [.ref d, .str (Str.ofString "nfkc_cf") u, .int x t]) Q E s :=
  dget_call H R D (by rfl) D.cf (by decide) (pbhF x hx).1 (pbhF x hx).2 (pbhFv hx) ret
end

theorem dat_method {w : World} {A : Around} {E : Value → Shared → Prop} {s : Shared} {h₀ : Heap} {L d : Addr} {m : Str → Option Value} {a : DP} {pl : Sem Bool} {Q : Value × List Value → Shared → Prop}
    (F : Fr h₀ L s.heap m) (X : (hd.heap_1 w.params).In h₀) (D : DAt w h₀ d a) (h : Q (.ref 324, [.ref d]) s) : wpAny (model PR w) A (getMethod (.ref d) "get" pl) Q E s := by
  obtain ⟨i1, ⟨a1, a2, a3, a4, t1, t2, t3, t4, p, q, n, i2⟩, _⟩ := D
  k_dflt (refine' method_inst F X (instBase F i1 i2) ?k4 ?k5 ?k6 ?k7 h; (case k4 => k_is); (case k5 => k_is); (case k6 => k_is); (case k7 => k_get))

end
local macro_rules | `(tactic| walk_at "getMethod ref") => `(tactic| ((with_reducible show wpAny _ _ (getMethod (Value.ref _) (Str.ofString "get") _) _ _ _); k_dflt (refine' dat_method ?F ?X ?D ?_; (case F => with_reducible assumption); (case X => with_reducible assumption); (case D => with_reducible assumption))))
local macro_rules | `(tactic| walk_at "call ref") => `(tactic| ((with_reducible show wpAny _ _ (call (Value.ref 324) [_, Value.str (Str.ofString "ccc") _, _]) _ _ _); k_dflt (refine' dget_ccc ?kH ?kR ?kD ?kx ?_; (case kH => ktr_rel); (case kR => ktr_room); (case kD => exact DAt.mono (by with_reducible assumption) (Fr.keep (by with_reducible assumption))); (case kx => first | with_reducible assumption | k_extra "codes"); intro t9 h9 tk9; tb_start)))
section
theorem off_rev : True := by
  w_top off
  trivial
section
variable {prog : Program} {w : World} {A : Around} {E : Value → Shared → Prop} {s : Shared} {t sl : Addr} {v1 v2 : Value} {u : Tok} {Q : Value → Shared → Prop}
theorem revTup_get (ht : IsTup s.heap t #[v1, v2]) (hs : s.heap.IsSliceOf sl .none .none (.int (-1) u)) (h : Q (.ref s.heap.objs.size) { s with heap := s.heap.push (tupOf [v2, v1] 0) }) :
    wpAny (model prog w) A (getItem (.ref t) (.ref sl)) Q E s := by
  obtain ⟨os, hos, hcs, hds⟩ := id hs
  have hTs : s.TypeIs (.ref sl) "slice" := ⟨os, hos, hcs⟩
  unfold getItem
  try with_reducible refine wpAny_holding ?_
  first | refine wpAny_bind (wpAny_pure ?_) | skip
  refine wpAny_bind (wpAny_sequenceKey ht.typeIs (by decide) ?_)
  refine wpAny_bind (wpAny_callSpecial?_slot (name := Str.ofString "__getitem__") ht.typeIs PyProof.Rows.slot_tuple_getitem
    (wpAny_call_entry PyProof.Rows.slot_tuple_getitem ht.typeIs PyProof.Rows.entry_tuple_getitem ?_ (PyProof.Rows.args_tuple_getitem _ _)))
  show wpAny _ _ (Builtin.Tuple.tupleItemsOf (.ref t) >>= _) _ _ s
  refine wpAny_bind (tupleItemsOf_ ht ?_)
  refine wpAny_bind (wpAny_typeOf hTs ?_)
  rw [if_pos (by decide)]
  refine wpAny_bind ?_
  unfold Builtin.Slice.sliceApplied Builtin.Slice.sliceFields
  refine wpAny_bind (wpAny_bind (wpAny_field hos hds (x := .none) rfl (wpAny_bind (wpAny_field hos hds (x := .none) rfl (wpAny_bind (wpAny_field hos hds (x := .int (-1) u) rfl (wpAny_pure ?_)))))))
  dsimp only
  refine wpAny_bind ?_
  unfold Builtin.Slice.slicePartIndex
  rw [if_neg (show ¬ ((Value.int (-1) u == Value.none) = true) from fun hh => Bool.false_ne_true hh)]
  refine wpAny_bind (wpAny_specialOf (T := "int") (typeIs_int s (-1) u) int_index ?_)
  rw [if_neg (by simp)]
  refine wpAny_bind (wpAny_of_eq (a := -1) rfl ?_)
  refine wpAny_pure ?_
  rw [if_neg (by decide)]
  rw [if_pos (by decide)]
  refine wpAny_bind (wpAny_pure (wpAny_bind (wpAny_pure (wpAny_bind (wpAny_pure (wpAny_pure ?_))))))
  dsimp only
  rw [show Builtin.Slice.sliceAdjust none none ((some (-1 : Int)).getD 1) (((#[v1, v2] : Array Value).size : Nat) : Int) = (1, -1) from rfl]
  dsimp only
  rw [show ((#[v1, v2] : Array Value).size) = 2 from rfl]
  rw [if_neg (by decide)]
  change wpAny _ _ (Builtin.Tuple.tupleExact #[v2, v1] >>= _) _ _ _
  refine wpAny_bind (wpAny_newObj_type ?_ (show 2 ≤ sizeLine by decide))
  exact wpAny_pure ⟨_, rfl, wpAny_pure h⟩
theorem revTup {value slice : PySem.Expr} {ops : List Value} {h₀ : Heap} {L : Addr} {m : Str → Option Value} {news : List (Addr × Obj)} (F : Fr h₀ L s.heap m) (N : News h₀ L s.heap news) (ht : IsTup s.heap t #[v1, v2])
    (h : ∀ D h', Fr h₀ L h' m → News h₀ L h' ((D, tupOf [v2, v1] 0) :: news) → (∀ p ∈ news, p.1 < D) → Q (.ref D) { s with heap := h' })
    (hs : subscripted slice false (.ref t) (.ref s.heap.objs.size) = operate ops (getItem (.ref t) (.ref s.heap.objs.size)) := by with_unfolding_all rfl)
    (hg : ∀ r, letTemporaryGo value (.ref t) r = pure () := by intro _; with_unfolding_all rfl) :
    wpAny (model prog w) A (subscriptTail value slice (.ref t) (.ref s.heap.objs.size)) Q E { s with heap := s.heap.push { cls := .type "slice", data := .fields #[.none, .none, .int (-1) u] } } := by
  refine subscriptTail_ops (IsTup.typeIs (s := { s with heap := s.heap.push { cls := .type "slice", data := .fields #[.none, .none, .int (-1) u] } }) (ht.push _)) PyProof.Rows.slot_tuple_getitem.lookup
    (revTup_get (ht.push _) (Heap.IsSliceOf.new ..) ?_) hs hg
  have N1 := News.push (F.push { cls := .type "slice", data := .fields #[.none, .none, .int (-1) u] }) (N.grown fun _ _ e => Heap.get?_push_of_some _ e) (tupOf [v2, v1] 0)
  rw [Heap.size_push] at N1
  show Q (.ref (s.heap.push _).objs.size) _
  rw [Heap.size_push]
  exact h _ _ ((F.push _).push _) N1 fun p hp => Nat.lt_succ_of_lt (Heap.lt_size (N p hp).1)
end
local macro_rules | `(tactic| walk_at "subscriptTail") => `(tactic| ((with_reducible show wpAny _ _ (subscriptTail _ (PySem.Expr.Slice none none (some _) _) (Value.ref _) (Value.ref _)) _ _ _); k_dflt (refine' revTup ?F ?N ?t ?_; (case F => with_reducible assumption); (case N => with_reducible assumption); (case t => exact IsTup.keeps (tupK (by with_reducible assumption) (by k_is)) (Fr.keep (by with_reducible assumption))); intro D9 h9 F9 N9 l9; (try k_lt l9); k_sweep)))

end
local macro_rules | `(tactic| walk_at "zz") => `(tactic| fail)
local macro_rules | `(tactic| walk_at "zz") => `(tactic| fail)
local macro_rules | `(tactic| walk_at "subscriptTail") => `(tactic| ((with_reducible show wpAny _ _ (subscriptTail _ (PySem.Expr.Slice none none (some _) _) (Value.ref _) (Value.ref _)) _ _ _); k_dflt (refine' revTup ?F ?N ?t ?_; (case F => with_reducible assumption); (case N => with_reducible assumption); (case t => exact IsTup.keeps (tupK (by with_reducible assumption) (by k_is)) (Fr.keep (by with_reducible assumption))); intro D9 h9 F9 N9 l9; (try k_lt l9); k_sweep)))
section
theorem off_hangul : True := by
  w_top off
  trivial
theorem codesH : ∀ c ∈ codes, (0 ≤ c ∧ c < 4352) ∨ (4371 ≤ c ∧ c < 44032) ∨ (55204 ≤ c ∧ c < 1000000) := by decide

section
variable {w : World} {A : Around} {s : Shared} {Q E : Value → Shared → Prop} {x y : Int} {t u : Tok}
theorem ishangul_call (H : Here w A s.heap) (R : Room A 1) (hx : x ∈ codes)
    (ret : ∀ h' tk', Kp s.heap h' → Q (.bool false) { s with heap := h', toks := tk' }) :
    wpAny (model PR w) A (call (.ref 68) [.int x t]) Q E s := by
  have hc := codesH x hx
  refine wpAny_call ?_
  k_dflt (refine' enterP ?enH5 ?enR5 ?en65 ?en75 ?en95 ?enB5 ?_ ?ec25 ?ec35 ?ec45 ?ec55; (case enH5 => assumption); (case enR5 => assumption); (case en65 => k_is); (case en75 => k_is); (case en95 => first | exact BindsTo.of_eq rfl | exact binds_K (by assumption) rfl (by k_is) rfl rfl rfl); (case ec55 => decide); (case enB5 => exact locs rfl); (case ec25 => exact rfl); (case ec35 => exact rfl); (case ec45 => exact rfl); k_whole; intro enq01 enq02 enq03 enq04 enq05 enq06 enq07 enq08 enq09 enq10 enq11 enq12 enq13 enq14 enq15 enq16 enq17 enq18 enq19 enq20 enq21 enq22 enq23 enq24 enq25 enq26 enq27 enq28; (try dsimp only); (try k_fold))
  clear H
  (repeat' (first | (k_unfold; (try dsimp only)) | walk1 | (dsimp only; walk1) | (leave1; (try dsimp only))))
  all_goals exact endB (Q := Q) ret (decide_eq_false (by omega)) (Fr.keep (by with_reducible assumption))
end
local macro_rules | `(tactic| walk_at "call ref") => `(tactic| ((with_reducible show wpAny _ _ (call (Value.ref 68) _) _ _ _); k_dflt (refine' ishangul_call ?kH ?kR ?kx ?_; (case kH => ktr_rel); (case kR => ktr_room); (case kx => first | with_reducible assumption | k_extra "codes"); intro h9 tk9; tb_start)))
section
variable {w : World} {A : Around} {s : Shared} {Q E : Value → Shared → Prop} {x y : Int} {t u : Tok}
theorem parts_call (H : Here w A s.heap) (R : Room A 2) (hx : x ∈ codes)
    (ret : ∀ h' tk', Kp s.heap h' → Q .none { s with heap := h', toks := tk' }) :
    wpAny (model PR w) A (call (.ref 82) [.int x t]) Q E s := by
  refine wpAny_call ?_
  k_dflt (refine' enterP ?enH6 ?enR6 ?en66 ?en76 ?en96 ?enB6 ?_ ?ec26 ?ec36 ?ec46 ?ec56; (case enH6 => assumption); (case enR6 => assumption); (case en66 => k_is); (case en76 => k_is); (case en96 => first | exact BindsTo.of_eq rfl | exact binds_K (by assumption) rfl (by k_is) rfl rfl rfl); (case ec56 => decide); (case enB6 => exact locs rfl); (case ec26 => exact rfl); (case ec36 => exact rfl); (case ec46 => exact rfl); k_whole; intro enq01 enq02 enq03 enq04 enq05 enq06 enq07 enq08 enq09 enq10 enq11 enq12 enq13 enq14 enq15 enq16 enq17 enq18 enq19 enq20 enq21 enq22 enq23 enq24 enq25 enq26 enq27 enq28; (try dsimp only); (try k_fold))
  clear H
  (repeat' (first | (k_unfold; (try dsimp only)) | walk1 | (dsimp only; walk1) | (leave1; (try dsimp only))))
  all_goals exact endV (Q := Q) ret (Fr.keep (by with_reducible assumption))
theorem pair_call (H : Here w A s.heap) (R : Room A 2) (hx : x ∈ codes) (hy : y ∈ codes)
    (ret : ∀ h' tk', Kp s.heap h' → Q .none { s with heap := h', toks := tk' }) :
    wpAny (model PR w) A (call (.ref 89) [.int x t, .int y u]) Q E s := by
  have hc := codesH x hx
  refine wpAny_call ?_
  k_dflt (refine' enterP ?enH7 ?enR7 ?en67 ?en77 ?en97 ?enB7 ?_ ?ec27 ?ec37 ?ec47 ?ec57; (case enH7 => assumption); (case enR7 => assumption); (case en67 => k_is); (case en77 => k_is); (case en97 => first | exact BindsTo.of_eq rfl | exact binds_K (by assumption) rfl (by k_is) rfl rfl rfl); (case ec57 => decide); (case enB7 => exact locs rfl); (case ec27 => exact rfl); (case ec37 => exact rfl); (case ec47 => exact rfl); k_whole; intro enq01 enq02 enq03 enq04 enq05 enq06 enq07 enq08 enq09 enq10 enq11 enq12 enq13 enq14 enq15 enq16 enq17 enq18 enq19 enq20 enq21 enq22 enq23 enq24 enq25 enq26 enq27 enq28; (try dsimp only); (try k_fold))
  clear H
  (repeat' (first | (k_unfold; (try dsimp only)) | walk1 | (dsimp only; walk1) | (leave1; (try dsimp only))))
  all_goals exact endV (Q := Q) ret (Fr.keep (by with_reducible assumption))
end
local macro_rules | `(tactic| walk_at "call ref") => `(tactic| ((with_reducible show wpAny _ _ (call (Value.ref 82) _) _ _ _); k_dflt (refine' parts_call ?kH ?kR ?kx ?_; (case kH => ktr_rel); (case kR => ktr_room); (case kx => first | with_reducible assumption | k_extra "codes"); intro h9 tk9; tb_start)))
local macro_rules | `(tactic| walk_at "call ref") => `(tactic| ((with_reducible show wpAny _ _ (call (Value.ref 89) _) _ _ _); k_dflt (refine' pair_call ?kH ?kR ?kx ?ky ?_; (case kH => ktr_rel); (case kR => ktr_room); (case kx => first | with_reducible assumption | k_extra "codes"); (case ky => first | with_reducible assumption | k_extra "codes"); intro h9 tk9; tb_start)))

def fmV (c : Int) : Value := if c = 201 then .ref 342 else if c = 233 then .ref 341 else .none
theorem dm_cases {w : World} {h : Heap} {d : Addr} {a : DP} {x : Int} (D : DAt w h d a) (hx : x ∈ codes) :
    (dmV a x = .none ∧ fmV x = .none) ∨ (∃ t k tk n, dmV a x = .ref t ∧ h.get? t = some (tupOf [.str (Str.ofString "") tk, .ref k] n) ∧ fmV x = .ref k) ∨
      (∃ t k tk n, dmV a x = .ref t ∧ h.get? t = some (tupOf [.str (Str.ofString "compat") tk, .ref k] n) ∧ fmV x = .none) := by
  obtain ⟨u1, n1, e1⟩ := D.t1
  obtain ⟨u2, n2, e2⟩ := D.t2
  obtain ⟨u3, n3, e3⟩ := D.t3
  obtain ⟨u4, n4, e4⟩ := D.t4
  obtain ⟨u5, n5, e5⟩ := D.t5
  simp only [codes, List.mem_cons, List.not_mem_nil, or_false] at hx
  rcases hx with rfl | rfl | rfl | rfl | rfl | rfl | rfl | rfl | rfl | rfl | rfl
  · exact .inr (.inr ⟨_, _, _, _, rfl, e5, rfl⟩)
  · exact .inr (.inr ⟨_, _, _, _, rfl, e3, rfl⟩)
  · exact .inr (.inr ⟨_, _, _, _, rfl, e4, rfl⟩)
  · exact .inl ⟨rfl, rfl⟩
  · exact .inl ⟨rfl, rfl⟩
  · exact .inr (.inl ⟨_, _, _, _, rfl, e2, rfl⟩)
  · exact .inl ⟨rfl, rfl⟩
  · exact .inl ⟨rfl, rfl⟩
  · exact .inr (.inl ⟨_, _, _, _, rfl, e1, rfl⟩)
  · exact .inl ⟨rfl, rfl⟩
  · exact .inl ⟨rfl, rfl⟩

end
local macro_rules | `(tactic| walk_at "zz") => `(tactic| fail)
local macro_rules | `(tactic| walk_at "zz") => `(tactic| fail)
local macro_rules | `(tactic| walk_at "zz") => `(tactic| fail)
local macro_rules | `(tactic| walk_at "zz") => `(tactic| fail)
local macro_rules | `(tactic| walk_at "call ref") => `(tactic| ((with_reducible show wpAny _ _ (call (Value.ref 68) _) _ _ _); k_dflt (refine' ishangul_call ?kH ?kR ?kx ?_; (case kH => ktr_rel); (case kR => ktr_room); (case kx => first | with_reducible assumption | k_extra "codes"); intro h9 tk9; tb_start)))
local macro_rules | `(tactic| walk_at "call ref") => `(tactic| ((with_reducible show wpAny _ _ (call (Value.ref 82) _) _ _ _); k_dflt (refine' parts_call ?kH ?kR ?kx ?_; (case kH => ktr_rel); (case kR => ktr_room); (case kx => first | with_reducible assumption | k_extra "codes"); intro h9 tk9; tb_start)))
local macro_rules | `(tactic| walk_at "call ref") => `(tactic| ((with_reducible show wpAny _ _ (call (Value.ref 89) _) _ _ _); k_dflt (refine' pair_call ?kH ?kR ?kx ?ky ?_; (case kH => ktr_rel); (case kR => ktr_room); (case kx => first | with_reducible assumption | k_extra "codes"); (case ky => first | with_reducible assumption | k_extra "codes"); intro h9 tk9; tb_start)))
section
theorem off_fmap : True := by
  w_top off
  trivial
theorem tupBase {g h : Heap} {L x : Addr} {m : Str → Option Value} {vs : List Value} {n : Nat} (F : Fr g L h m) (e : g.get? x = some (tupOf vs n)) : IsTup h x vs.toArray := ⟨_, F.keep _ _ e, rfl, n, rfl⟩
theorem fmap_call {w : World} {A : Around} {s : Shared} {Q E : Value → Shared → Prop} {x : Int} {t : Tok} {d : Addr} {a : DP} (H : Here w A s.heap) (R : Room A 4) (D : DAt w s.heap d a) (hx : x ∈ codes)
    (ret : ∀ h' tk', Kp s.heap h' → Q (fmV x) { s with heap := h', toks := tk' }) :
    wpAny (model PR w) A (call (.ref 96) [.int x t, .ref d, .bool false]) Q E s := by
  rcases dm_cases D hx with ⟨e1, e2⟩ | ⟨u, k, tk, n, e1, e3, e2⟩ | ⟨u, k, tk, n, e1, e3, e2⟩
  all_goals (
    rw [e2] at ret
    refine wpAny_call ?_
    k_dflt (refine' enterP ?enH8 ?enR8 ?en68 ?en78 ?en98 ?enB8 ?_ ?ec28 ?ec38 ?ec48 ?ec58; (case enH8 => assumption); (case enR8 => assumption); (case en68 => k_is); (case en78 => k_is); (case en98 => first | exact BindsTo.of_eq rfl | exact binds_K (by assumption) rfl (by k_is) rfl rfl rfl); (case ec58 => decide); (case enB8 => exact locs rfl); (case ec28 => exact rfl); (case ec38 => exact rfl); (case ec48 => exact rfl); k_whole; intro enq01 enq02 enq03 enq04 enq05 enq06 enq07 enq08 enq09 enq10 enq11 enq12 enq13 enq14 enq15 enq16 enq17 enq18 enq19 enq20 enq21 enq22 enq23 enq24 enq25 enq26 enq27 enq28; (try dsimp only); (try k_fold))
    clear H
    (repeat' (first | (k_unfold; (try dsimp only)) | ((with_reducible show wpAny _ _ (call (Value.ref 324) [_, Value.str (Str.ofString "dm") _, _]) _ _ _); k_dflt (refine' dget_dmE (by ktr_rel) (by ktr_room) (by exact DAt.mono (by with_reducible assumption) (Fr.keep (by with_reducible assumption))) (by first | with_reducible assumption | k_extra "codes") (by with_reducible assumption) ?_); intro h9 tk9; tb_start) | ((with_reducible show wpAny _ _ (subscriptTail _ _ (Value.ref _) (Value.int _ _)) _ _ _); k_dflt (refine' item_tupleT (by exact tupBase (by with_reducible assumption) (by with_reducible assumption)) (by decide) (by decide) (by rfl) (by rfl) ?_)) | walk1 | (dsimp only; walk1) | (leave1; (try dsimp only))))
    all_goals exact endV (Q := Q) ret (Fr.keep (by with_reducible assumption)))
theorem fmap_callE {w : World} {A : Around} {s : Shared} {Q E : Value → Shared → Prop} {x : Int} {t : Tok} {d : Addr} {a : DP} {v : Value} (H : Here w A s.heap) (R : Room A 4) (D : DAt w s.heap d a) (hx : x ∈ codes) (hv : fmV x = v)
    (ret : ∀ h' tk', Kp s.heap h' → Q v { s with heap := h', toks := tk' }) :
    wpAny (model PR w) A (call (.ref 96) [.int x t, .ref d, .bool false]) Q E s := by
  subst hv
  exact fmap_call H R D hx ret

end
local macro_rules | `(tactic| walk_at "subscriptTail") => `(tactic| ((with_reducible show wpAny _ _ (subscriptTail _ _ (Value.ref _) (Value.int _ _)) _ _ _); k_dflt (refine' item_tupleT ?t ?a ?b ?c ?d ?_; (case t => exact tupBase (by with_reducible assumption) (by with_reducible assumption)); (case a => decide); (case b => decide); (case c => rfl); (case d => rfl))))
local macro_rules | `(tactic| walk_at "call ref") => `(tactic| ((with_reducible show wpAny _ _ (call (Value.ref 96) _) _ _ _); k_dflt (refine' fmap_callE ?kH ?kR ?kD ?kx ?kv ?_; (case kv => with_reducible assumption); (case kH => ktr_rel); (case kR => ktr_room); (case kD => exact DAt.mono (by with_reducible assumption) (Fr.keep (by with_reducible assumption))); (case kx => first | with_reducible assumption | decide); intro h9 tk9; tb_start)))
section
theorem off_fexp : True := by
  w_top off
  trivial
theorem newsAdd {h₀ h h' : Heap} {L l : Addr} {m : Str → Option Value} {news : List (Addr × Obj)} {o : Obj} (F : Fr h₀ L h m) (N : News h₀ L h news) (k : Kp h h') (f : h.get? l = none) (g : h'.get? l = some o) : News h₀ L h' ((l, o) :: news) := by
  intro p hp
  rcases List.mem_cons.mp hp with rfl | hp
  · refine ⟨g, fun e => ?_, ?_⟩
    · obtain ⟨oL, _, _, hL, _⟩ := F.ns
      have e' : l = L := e
      rw [e', hL] at f
      cases f
    · cases q : h₀.get? l with
      | none => rfl
      | some o' => rw [F.keep _ _ q] at f; cases f
  · exact ⟨k _ _ (N p hp).1, (N p hp).2⟩
def expF (c : Int) : List Int := if c = 201 then [69, 769] else if c = 233 then [101, 769] else [c]
theorem fm_cases {x : Int} : (fmV x = .none ∧ expF x = [x]) ∨ (x = 201) ∨ (x = 233) := by
  unfold fmV expF
  by_cases h1 : x = 201
  · exact .inr (.inl h1)
  · by_cases h2 : x = 233
    · exact .inr (.inr h2)
    · simp [h1, h2]
/-- a sign with two parts, none of them a sign with parts -/
theorem fexp_two {w : World} {A : Around} {s : Shared} {Q E : Value → Shared → Prop} {x c : Int} {t t1 t2 : Tok} {d p : Addr} {a : DP} (H : Here w A s.heap) (R : Room A 5) (D : DAt w s.heap d a) (hx : x ∈ codes) (hc : c ∈ codes) (v1 : fmV x = .ref p) (v2 : fmV c = .none)
    (g : IsTup s.heap p #[.int c t1, .int 769 t2])
    (ret : ∀ l vs n h' tk', Kp s.heap h' → s.heap.get? l = none → h'.get? l = some (listOf vs.toArray n) → IntsAre vs [c, 769] → Q (.ref l) { s with heap := h', toks := tk' }) :
    wpAny (model PR w) A (call (.ref 103) [.int x t, .ref d, .bool false]) Q E s := by
  have v3 : fmV 769 = .none := rfl
  refine wpAny_call ?_
  k_dflt (refine' enterP ?enH9 ?enR9 ?en69 ?en79 ?en99 ?enB9 ?_ ?ec29 ?ec39 ?ec49 ?ec59; (case enH9 => assumption); (case enR9 => assumption); (case en69 => k_is); (case en79 => k_is); (case en99 => first | exact BindsTo.of_eq rfl | exact binds_K (by assumption) rfl (by k_is) rfl rfl rfl); (case ec59 => decide); (case enB9 => exact locs rfl); (case ec29 => exact rfl); (case ec39 => exact rfl); (case ec49 => exact rfl); k_whole; intro enq01 enq02 enq03 enq04 enq05 enq06 enq07 enq08 enq09 enq10 enq11 enq12 enq13 enq14 enq15 enq16 enq17 enq18 enq19 enq20 enq21 enq22 enq23 enq24 enq25 enq26 enq27 enq28; (try dsimp only); (try k_fold))
  clear H
  (repeat' (first | (k_unfold; (try dsimp only)) | ((with_reducible show wpAny _ _ (subscriptTail _ (PySem.Expr.Slice none none (some _) _) (Value.ref _) (Value.ref _)) _ _ _); k_dflt (refine' revTup (by with_reducible assumption) (by with_reducible assumption) (by exact IsTup.keeps (by with_reducible assumption) (Fr.keep (by with_reducible assumption))) ?_); intro D9 h9 F9 N9 l9; (try k_lt l9); k_sweep) | walk1 | (dsimp only; walk1) | (leave1; (try dsimp only))))
  all_goals exact endL (Q := Q) ret (by with_reducible assumption) (by with_reducible assumption) (by k_mem) (.cons _ _ (.cons _ _ .nil))
theorem fexp_call {w : World} {A : Around} {s : Shared} {Q E : Value → Shared → Prop} {x : Int} {t : Tok} {d : Addr} {a : DP} (H : Here w A s.heap) (R : Room A 5) (D : DAt w s.heap d a) (hx : x ∈ codes)
    (ret : ∀ l vs n h' tk', Kp s.heap h' → s.heap.get? l = none → h'.get? l = some (listOf vs.toArray n) → IntsAre vs (expF x) → Q (.ref l) { s with heap := h', toks := tk' }) :
    wpAny (model PR w) A (call (.ref 103) [.int x t, .ref d, .bool false]) Q E s := by
  have X := H.inn
  rcases fm_cases (x := x) with ⟨e1, e2⟩ | e1 | e1
  · rw [e2] at ret
    refine wpAny_call ?_
    k_dflt (refine' enterP ?enH10 ?enR10 ?en610 ?en710 ?en910 ?enB10 ?_ ?ec210 ?ec310 ?ec410 ?ec510; (case enH10 => assumption); (case enR10 => assumption); (case en610 => k_is); (case en710 => k_is); (case en910 => first | exact BindsTo.of_eq rfl | exact binds_K (by assumption) rfl (by k_is) rfl rfl rfl); (case ec510 => decide); (case enB10 => exact locs rfl); (case ec210 => exact rfl); (case ec310 => exact rfl); (case ec410 => exact rfl); k_whole; intro enq01 enq02 enq03 enq04 enq05 enq06 enq07 enq08 enq09 enq10 enq11 enq12 enq13 enq14 enq15 enq16 enq17 enq18 enq19 enq20 enq21 enq22 enq23 enq24 enq25 enq26 enq27 enq28; (try dsimp only); (try k_fold))
    clear H
    (repeat' (first | (k_unfold; (try dsimp only)) | walk1 | (dsimp only; walk1) | (leave1; (try dsimp only))))
    all_goals exact endL (Q := Q) ret (by with_reducible assumption) (by with_reducible assumption) (by k_mem) (.cons _ _ .nil)
  · subst e1
    exact fexp_two H R D hx (c := 69) (by decide) rfl rfl (tupK (a := 342) X (by k_is)) ret
  · subst e1
    exact fexp_two H R D hx (c := 101) (by decide) rfl rfl (tupK (a := 341) X (by k_is)) ret

end
section
theorem off_T : True := by
  w_top off
  trivial
/-- all but the table of form_sorted's code stays -/
abbrev KpB (h h' : Heap) : Prop := ∀ b o, b ≠ (112 : Nat) → h.get? b = some o → h'.get? b = some o
theorem KpB.refl (h : Heap) : KpB h h := fun _ _ _ e => e
theorem KpB.trans {h h' h'' : Heap} (a : KpB h h') (b : KpB h' h'') : KpB h h'' := fun x o n e => b x o n (a x o n e)
theorem Kp.b {h h' : Heap} (k : Kp h h') : KpB h h' := fun x o _ e => k x o e

/-- the table holds no code, or the lambda's one -/
def TabPs (h : Heap) (ps : Array Value) : Prop :=
  ps = #[] ∨ ∃ (c : Nat) (oc : Obj) (vs : Array Value) (t : Tok), ps = #[rawInt 92, rawInt 53, .ref c] ∧ (112 : Nat) < c ∧ h.get? c = some oc ∧ oc.data = .fields vs ∧ vs[1]? = some (.str (Str.ofString "form_sorted.<locals>.<lambda>") t)
theorem TabPs.mono {h h' : Heap} {ps : Array Value} (a : TabPs h ps) (k : KpB h h') : TabPs h' ps := by
  rcases a with a | ⟨c, oc, vs, t, e, l, g, r⟩
  · exact .inl a
  · exact .inr ⟨c, oc, vs, t, e, l, k c oc (Nat.ne_of_gt l) g, r⟩
def Tab (h : Heap) : Prop := ∃ ps, h.get? 112 = some (tabObj ps) ∧ TabPs h ps
/-- the table after a call: as it was, or with a new code -/
def TabS (h : Heap) (ps : Array Value) (h' : Heap) (ps' : Array Value) : Prop := h'.get? 112 = some (tabObj ps') ∧ TabPs h' ps' ∧ (ps' = ps ∨ ∀ c, ps' = #[rawInt 92, rawInt 53, .ref c] → h.get? c = none)
theorem TabS.tab {h h' : Heap} {ps ps' : Array Value} (a : TabS h ps h' ps') : Tab h' := ⟨ps', a.1, a.2.1⟩
theorem Tab.mono {h h' : Heap} (a : Tab h) (k : Kp h h') : Tab h' := let ⟨ps, e, r⟩ := a; ⟨ps, k _ _ e, r.mono k.b⟩

/-- a call stands in a def's frame over this heap; these objects lie aside -/
def HereN (w : World) (A : Around) (h : Heap) (news : List (Addr × Obj)) : Prop :=
  ∃ (dp un : Nat) (gd : Option (List Code)) (cn : Str) (cs : Scope) (L a : Addr) (ccd : Value) (cl : List (Str × Addr)) (outer : List Env) (A₀ : Around) (base h₀ : Heap) (m mg mb : Str → Option Value) (loose : List Str) (mean : ExcName → Option Value),
    A = ktrTop dp un gd cn cs L a ccd cl outer ∧ cs.kind = .function ∧ Below A₀ base outer h₀ ∧ Fr h₀ L h m ∧ News h₀ L h news ∧ (hd.heap_1 w.params).In h₀ ∧ CodeHd h₀ 114 112 ∧ Top topProg loose mean mg mb h₀
theorem HereN.mk {w : World} {h : Heap} {dp un : Nat} {gd : Option (List Code)} {cn : Str} {cs : Scope} {L a : Addr} {ccd : Value} {cl : List (Str × Addr)} {outer : List Env} {A₀ : Around} {base h₀ : Heap} {m mg mb : Str → Option Value} {loose : List Str} {mean : ExcName → Option Value} {news all : List (Addr × Obj)}
    (F : Fr h₀ L h m) (N : News h₀ L h all) (hs : ∀ p ∈ news, p ∈ all) (B : Below A₀ base outer h₀) (X : (hd.heap_1 w.params).In h₀) (C : CodeHd h₀ 114 112) (T : Top topProg loose mean mg mb h₀) (hk : cs.kind = .function) :
    HereN w (ktrTop dp un gd cn cs L a ccd cl outer) h news := ⟨_, _, _, _, _, _, _, _, _, _, _, _, _, _, _, _, _, _, rfl, hk, B, F, fun p hp => N p (hs p hp), X, C, T⟩
theorem HereN.here {w : World} {A : Around} {h : Heap} {news : List (Addr × Obj)} (H : HereN w A h news) : Here w A h := by
  obtain ⟨dp, un, gd, cn, cs, L, a, ccd, cl, outer, A₀, base, h₀, m, mg, mb, loose, mean, rfl, hck, B, F, N, X₀, C, T⟩ := H
  exact Here.mk F B X₀ T hck
theorem HereN.at {w : World} {A : Around} {h : Heap} {news : List (Addr × Obj)} (H : HereN w A h news) : ∀ p ∈ news, h.get? p.1 = some p.2 := by
  obtain ⟨dp, un, gd, cn, cs, L, a, ccd, cl, outer, A₀, base, h₀, m, mg, mb, loose, mean, rfl, hck, B, F, N, X₀, C, T⟩ := H
  exact fun p hp => (N p hp).1

section
variable {w : World} {A : Around} {s : Shared}
theorem enterN {R : Result → Shared → Prop} {name qual : Str} {params : Arguments} {body : List Stmt} {scope : Scope} {dV kV doc pm cdv ct oc : Value} {an od : Option Addr} {osl : Array (Option Value)} {f : Addr} {args : Args} {binds : List (Str × Value)} {n : Nat} {news : List (Addr × Obj)}
    (H : HereN w A s.heap news) (r : Room A (n + 1))
    (ho : (hd.heap_1 w.params).lookup f = some ⟨oc, od, .func (fnOf name qual params body scope dV kV doc pm an cdv ct), osl⟩) (hcd : codeIn (hd.heap_1 w.params) cdv qual = true)
    (hbind : BindsTo s (fnOf name qual params body scope dV kV doc pm an cdv ct) args binds) (hloc : ∀ y ∈ binds, scope.names.lookup y.1 = some .local)
    (h : ∀ (dp un : Nat) (gd : Option (List Code)) (cn : Str) (cs : Scope) (L a : Addr) (ccd : Value) (cl : List (Str × Addr)) (outer : List Env) (base : Heap) (mg mb : Str → Option Value) (loose : List Str) (mean : ExcName → Option Value) (g : Heap) L' h₁ (tk' : Nat), let A' := (ktrTop dp un gd cn cs L a ccd cl outer).deeper (envOf qual scope L' f cdv); let gs' := s.gens; let dr' := s.drawn; let os' := s.os;
      Room A' n → (∀ b o, s.heap.get? b = some o → b ∉ news.map (·.1) → g.get? b = some o) → (∀ b o, g.get? b = some o → s.heap.get? b = some o) →
      Fr g L' h₁ (fun y => binds.reverse.lookup y) → News g L' h₁ news → (∀ p ∈ news, p.1 < L') → CodeHd g 114 112 →
      Below (ktrTop dp un gd cn cs L a ccd cl outer) base (envX cn cs L a ccd cl :: outer) g → (hd.heap_1 w.params).In g → Top topProg loose mean mg mb g →
      wpAny (model PR w) A' (execs body (envOf qual scope L' f cdv))
        (fun fl s' => R (.ok (.ret (match fl with | .ret v => v | _ => .none))) s')
        (fun e s' => wpAny (model PR w) A' (leaving (envOf qual scope L' f cdv) e) (fun _ s'' => R (.error e) s'') (fun e' s'' => R (.error e') s'') s')
        { heap := h₁, gens := gs', drawn := dr', toks := tk', os := os' })
    (hco : scope.isCoroutine = false) (hgen : scope.isGenerator = false) (hk : scope.kind = .function)
    (hcell : ∀ x ∈ scope.names, x.2 ≠ .cell) : codeAny (model PR w) A (.call (.ref f) args) R s := by
  obtain ⟨dp, un, gd, cn, cs, L, a, ccd, cl, outer, A₀, base, h₀, m, mg, mb, loose, mean, rfl, hck, B, F, N, X₀, C, T⟩ := H
  obtain ⟨FG, BG, st, lv⟩ := groundX (R := R) (A := ktrTop dp un gd cn cs L a ccd cl outer) (env := envX cn cs L a ccd cl) B F N rfl rfl hck
  refine codeAny_call_def (fd := fnOf name qual params body scope dV kV doc pm an cdv ct) (body := body) (binds := binds) r.room (F.keep _ _ (X₀ _ _ ho)) rfl (T.nolimit.keeps F.keep) (codeRec_of (X₀.keeps F.keep) hcd) rfl hbind hcell hloc (fun h₁ hns hk₁ => ?_) hco hgen hk
  exact h dp un gd cn cs L a ccd cl outer base mg mb loose mean _ s.heap.objs.size h₁ _ (r.deeper _) (fun b o e n => hideAll_get _ e n) (fun b o e => of_hideAll _ e)
    ⟨hns, fun b o e => hk₁ b o (of_hideAll _ e), Nat.le_of_eq (hideAll_size _ _)⟩ (fun p hp => ⟨hk₁ _ _ (N p hp).1, Nat.ne_of_lt (Heap.lt_size (N p hp).1), hideAll_none _ (List.mem_map_of_mem hp)⟩) (fun p hp => Heap.lt_size (N p hp).1)
    (C.keeps st) BG (X₀.keeps st) (T.keeps st)
end

/-- behind a callee's end: all but the table stays -/
theorem kpB_of {hs g h' : Heap} {L : Addr} {m : Str → Option Value} {news all : List (Addr × Obj)} (hg : ∀ b o, hs.get? b = some o → b ∉ news.map (·.1) → g.get? b = some o) (hat : ∀ p ∈ news, hs.get? p.1 = some p.2)
    (F : Fr g L h' m) (N : News g L h' all) (hsub : ∀ p ∈ news, p.1 = (112 : Nat) ∨ p ∈ all) : KpB hs h' := by
  intro b o hb e
  by_cases hm : b ∈ news.map (·.1)
  · obtain ⟨p, hp, rfl⟩ := List.mem_map.mp hm
    rcases hsub p hp with h1 | h1
    · exact absurd h1 hb
    · have e2 := hat p hp
      rw [e] at e2
      have e3 := (N p h1).1
      rw [← Option.some.inj e2] at e3
      exact e3
  · exact F.keep b o (hg b o e hm)

theorem frB {g h h' : Heap} {L : Addr} {m : Str → Option Value} {news : List (Addr × Obj)} {ps : Array Value} (F : Fr g L h m) (N : News g L h news) (h112 : ((112 : Nat), tabObj ps) ∈ news) (k : KpB h h') : Fr g L h' m := by
  have n := N _ h112
  refine ⟨F.ns.at fun o e => k L o (fun q => n.2.1 q.symm) e, fun b o e => k b o (fun q => ?_) (F.keep b o e), F.above⟩
  have n3 := n.2.2
  rw [q] at e
  rw [e] at n3
  cases n3
theorem newsB {g h h' : Heap} {L : Addr} {tl rest : List (Addr × Obj)} {ps ps' : Array Value} (N : News g L h (rest ++ ((112 : Nat), tabObj ps) :: tl)) (h1 : ∀ p ∈ rest, p.1 ≠ (112 : Nat)) (h2 : ∀ p ∈ tl, p.1 ≠ (112 : Nat)) (k : KpB h h') (e : h'.get? 112 = some (tabObj ps')) : News g L h' (rest ++ ((112 : Nat), tabObj ps') :: tl) := by
  intro p hp
  rcases List.mem_append.mp hp with hp | hp
  · have n := N p (List.mem_append_left _ hp)
    exact ⟨k _ _ (h1 p hp) n.1, n.2⟩
  · rcases List.mem_cons.mp hp with rfl | hp
    · have n := N _ (List.mem_append_right _ (.head _))
      exact ⟨e, n.2⟩
    · have n := N p (List.mem_append_right _ (.tail _ hp))
      exact ⟨k _ _ (h2 p hp) n.1, n.2⟩

theorem freshN {hs g h' : Heap} {L D : Addr} {oD : Obj} {news all : List (Addr × Obj)} (hg : ∀ b o, hs.get? b = some o → b ∉ news.map (·.1) → g.get? b = some o) (N : News g L h' all) (hD : (D, oD) ∈ all) (hoff : ∀ p ∈ news, p.1 ≠ D) : hs.get? D = none := by
  cases q : hs.get? D with
  | none => rfl
  | some o =>
    have h1 : D ∉ news.map (·.1) := fun hm => by
      obtain ⟨p, hp, e⟩ := List.mem_map.mp hm
      exact hoff p hp e
    have h2 := hg D o q h1
    have h3 := N.fresh hD
    rw [h2] at h3
    cases h3
theorem off1_mem {D : Addr} {l : List (Addr × Obj)} (h : LCg.Off1 D l) : ∀ p ∈ l, p.1 ≠ D := by
  induction l with
  | nil => exact fun p hp => absurd hp List.not_mem_nil
  | cons q r ih =>
    intro p hp
    have h' : (@Ne Nat q.1 D) ∧ LCg.Off1 D r := h
    rcases List.mem_cons.mp hp with e | hp
    · rw [e]; exact h'.1
    · exact ih h'.2 p hp

end
section
theorem off_fsort : True := by
  w_top off
  trivial
theorem notIn_of_cls {h : Heap} {l : Addr} {o : Obj} {news : List (Addr × Obj)} (e : h.get? l = some o) (hat : ∀ p ∈ news, h.get? p.1 = some p.2) (hc : ∀ p ∈ news, p.2.cls ≠ o.cls) : l ∉ news.map (·.1) := fun hm => by
  obtain ⟨p, hp, rfl⟩ := List.mem_map.mp hm
  have e2 := hat p hp
  rw [e] at e2
  exact hc p hp (congrArg Obj.cls (Option.some.inj e2)).symm

theorem allLt_mem {D : Addr} {l : List (Addr × Obj)} (h : AllLt D l) : ∀ p ∈ l, p.1 < D := by
  induction l with
  | nil => exact fun p hp => absurd hp List.not_mem_nil
  | cons q r ih =>
    intro p hp
    have h' : (@LT.lt Nat _ q.1 D) ∧ AllLt D r := h
    rcases List.mem_cons.mp hp with e | hp
    · rw [e]; exact h'.1
    · exact ih h'.2 p hp
theorem kskAll {b : Bool} {kz : List Int} {vs out : List Value} (h : KskOut b kz vs out) : out.length = (kz.zip vs).length ∧ ∀ v ∈ out, v ∈ vs := by
  obtain ⟨ps, p, rfl, _⟩ := h
  refine ⟨by rw [List.length_map, p.length_eq], fun v hv => ?_⟩
  obtain ⟨q, hq, rfl⟩ := List.mem_map.mp hv
  obtain ⟨a, b⟩ := q
  exact (List.of_mem_zip (p.mem_iff.mp hq)).2
theorem ints_snoc {n : Int} {t : Tok} : ∀ {vs : List Value} {ns : List Int}, IntsAre vs ns → IntsAre (vs ++ [.int n t]) (ns ++ [n])
  | _, _, .nil => .cons n t .nil
  | _, _, .cons n' t' h => .cons n' t' (ints_snoc h)
theorem rep_snoc (n : Nat) (x : Int) : List.replicate (n + 1) x = List.replicate n x ++ [x] := List.replicate_succ'

theorem comp769 {prog : Program} {w : World} {A : Around} {h₀ : Heap} {L : Addr} {m : Str → Option Value} {env : Env} {pos : Pos} {scope : Scope} {cl : List (Str × Addr)} {s : Shared} {S : List (Addr × Obj) → Prop} {P : Nat → Value → Prop} {Fin : List Value → List (Addr × Obj) → Prop} {news : List (Addr × Obj)} {N : Nat}
    (hP : ∀ i v, P i v → ∃ a t1 t2 n, v = .ref a ∧ (a, tupOf [.int 230 t1, .int 769 t2] n) ∈ news) (hS : S news)
    (hk : scope.kind = .function) (hl : ∀ C, (compEnvC scope cl C env).kindOf (Str.ofString "code") = some .local)
    (fin : ∀ ys, IntsAre ys (List.replicate N 769) → Fin ys news) :
    ∀ (k i : Nat) (ys : List Value), i + k = N → IntsAre ys (List.replicate i 769) → LCp.CompRestP prog w A h₀ L m env (.Name (Str.ofString "code") pos) (Str.ofString "weight") (Str.ofString "code") scope cl s S P Fin k i ys news := by
  intro k
  induction k with
  | zero =>
    intro i ys e hy
    have e' : i = N := by omega
    subst e'
    exact LCp.CompRestP.zero (fin ys hy)
  | succ k ih =>
    intro i ys e hy
    refine LCp.CompRestP.succ fun v hv => ?_
    obtain ⟨a, t1, t2, n, rfl, hm⟩ := hP i v hv
    refine ⟨a, _, .int 230 t1, .int 769 t2, n, rfl, hm, rfl, rfl, ?_⟩
    intro I oI C oC D m₂ h tk E' hC hx hx2 F N' off ne
    refine LCgL.ld_own N' (.tail _ (.head _)) hC hx2 ?_ hk (hl C) (by decide)
    refine LCg.CompEnd.intro F N' news (fun p hp => ?_) off hS (ih (i + 1) _ (by omega) (by rw [rep_snoc]; exact ints_snoc hy))
    exact hp
theorem rep_get {n i : Nat} {x k : Int} (h : (List.replicate n x)[i]? = some k) : k = x := (List.mem_replicate.mp (List.mem_of_getElem? h)).2
theorem fsort_call {w : World} {A : Around} {s : Shared} {Q E : Value → Shared → Prop} {l : Addr} {vs : List Value} {n : Nat} {tl : List (Addr × Obj)} {ps : Array Value}
    (H : HereN w A s.heap (((112 : Nat), tabObj ps) :: tl)) (R : Room A 3) (hps : TabPs s.heap ps) (ht' : ∀ p ∈ tl, ∃ us n, p.2 = tupOf us n) (hl : s.heap.get? l = some (listOf vs.toArray n)) (hlen : vs.length < 64)
    (hv : ∀ v ∈ vs, ∃ a t1 t2 n, v = .ref a ∧ (a, tupOf [.int 230 t1, .int 769 t2] n) ∈ tl)
    (ret : ∀ l vs' n h' tk' ps', KpB s.heap h' → TabS s.heap ps h' ps' → s.heap.get? l = none → h'.get? l = some (listOf vs'.toArray n) → IntsAre vs' (List.replicate vs.length 769) → Q (.ref l) { s with heap := h', toks := tk' }) :
    wpAny (model PR w) A (call (.ref 115) [.ref l]) Q E s := by
  have ht : ∀ p ∈ tl, p.2.cls = .type "tuple" := fun p hp => by
    obtain ⟨us, n, e⟩ := ht' p hp
    rw [e]
  have hat := H.at
  have hlg := notIn_of_cls hl hat (fun p hp => by
    rcases List.mem_cons.mp hp with rfl | hp
    · exact fun e => nomatch e
    · rw [ht p hp]; exact fun e => absurd (show Value.type "tuple" = Value.type "list" from e) (by decide))
  have hne : ∀ p ∈ tl, p.1 ≠ (112 : Nat) := fun p hp e => by
    have e2 := hat p (.tail _ hp)
    have e3 := hat _ (.head _)
    rw [e, e3] at e2
    have e4 := congrArg Obj.cls (Option.some.inj e2)
    rw [ht p hp] at e4
    exact nomatch e4
  refine wpAny_call ?_
  k_dflt (refine' enterN ?enH11 ?enR11 ?en611 ?en711 ?en911 ?enB11 ?_ ?ec211 ?ec311 ?ec411 ?ec511; (case enH11 => assumption); (case enR11 => assumption); (case en611 => k_is); (case en711 => k_is); (case en911 => first | exact BindsTo.of_eq rfl | exact binds_K (by assumption) rfl (by k_is) rfl rfl rfl); (case ec511 => decide); (case enB11 => exact locs rfl); (case ec211 => exact rfl); (case ec311 => exact rfl); (case ec411 => exact rfl); k_whole; intro enq01 enq02 enq03 enq04 enq05 enq06 enq07 enq08 enq09 enq10 enq11 enq12 enq13 enq14 enq15 enq16 enq17 enq18 enq19 enq20 enq21 enq22 enq23 enq24 enq25 enq26 enq27 enq28 enq29 enq30 enq31 enq32 enq33; (try k_lt enq29); (try dsimp only); (try k_fold))
  clear H
  rename ∀ b o, s.heap.get? b = some o → _ => hg
  rename ∀ b o, _ → s.heap.get? b = some o => hs
  have hl' := isListOf (hg _ _ hl hlg)
  rcases hps with e | ⟨c, oc, cvs, t, e, lc, gc, dc, qc⟩
  · subst e
    walk1
    walk1
    refine LCp.ListComp_P (F₀ := by k_asm) (by with_unfolding_all rfl) (by decide) (by rfl) (by decide) (by rfl) (by rfl) (by decide) ?_
    walk1
    walk1
    walk1
    walk1
    walk1
    walk1
    walk1
    refine kla_eval rfl ?_
    refine kla_nest (by assumption) (by assumption) (by assumption) (by assumption) rfl (UpdF.head hne) (by kn_triples) (by kn_among) rfl ?_
    intro f' c' oc' vs' t' ct' h' tk' F2 N2 d1 d2 l2 l3
    try dsimp only at N2
    replace l2 := allLt_of l2
    simp only [AllLt, and_true] at l2
    k_lt2 l3
    k_sweep
    walk1
    show wpAny _ _ (call (.builtin "sorted") [.ref l] [(Str.ofString "key", .ref f')]) _ _ _
    refine ksk_sorted (kz := List.replicate vs.length 230) (b := false) (f := .ref f') F2 N2 (hl'.at fun o e => F2.keep _ _ e) (by simp) hlen (ksk_s1 _ _) (fun x => ksk_l1 _ _) (fun x => ksk_t1 _ _) ?turn ?done
    case turn =>
      intro i v k hvi hki h9 tk9 own F3 N3
      obtain ⟨a, t1, t2, n2, rfl, hm⟩ := hv v (List.mem_of_getElem? hvi)
      have hk : k = 230 := rep_get hki
      subst hk
      have htup : IsTup h9 a _ := ⟨_, (N3 _ (List.mem_append_left _ (.tail _ (.tail _ (.tail _ hm))))).1, rfl, _, rfl⟩
      refine wpAny_call ?_
      k_dflt kla_enter
      walk1
      walk1
      walk1
      refine item_tupleT (News.isTup (by assumption) (List.mem_append_left _ (.tail _ (.tail _ (.tail _ hm))))) (by decide) (by decide) rfl rfl ?_
      (repeat' (first | (k_unfold; (try dsimp only)) | walk1 | (dsimp only; walk1) | (leave1; (try dsimp only))))
    case done =>
      intro D h9 tk9 out c9 F3 N3 l9 ko
      obtain ⟨ko1, ko2⟩ := kskAll ko
      have ko3 : out.size = vs.length := by rw [← Array.length_toList, ko1]; simp
      refine LCp.SrcLP.ledger rfl F3 N3 (.head _) (by rw [sizeLine_eq, ko3]; omega) ?_
      intro g9
      rw [ko3]
      refine comp769 (N := vs.length) (fun i v hv' => ?_) (.inr ⟨_, .head _, rfl, _, rfl⟩) rfl (fun C => rfl) (fun ys hy => ?_) vs.length 0 [] (by omega) .nil
      · obtain ⟨a, t1, t2, n, e, hm⟩ := hv v (ko2 v (Array.mem_toList_iff.mpr (Array.mem_of_getElem? hv')))
        exact ⟨a, t1, t2, n, e, .tail _ (.tail _ (.tail _ (.tail _ hm)))⟩
      · unfold LCg.FinE
        intro D' h4 tk4 F4 N4 o4
        refine ret D' ys _ h4 _ _ (kpB_of hg hat F4 N4 (fun p hp => ?_)) ⟨N4.get (.tail _ (.tail _ (.tail _ (.tail _ (.head _))))), .inr ⟨c', oc', vs', t', rfl, l2.1, N4.get (.tail _ (.tail _ (.tail _ (.head _)))), d1, d2⟩, .inr ?_⟩ (freshN hg N4 (.head _) (fun p hp => ?_)) (N4.get (.head _)) hy
        · rcases List.mem_cons.mp hp with rfl | hp
          · exact .inl rfl
          · exact .inr (.tail _ (.tail _ (.tail _ (.tail _ (.tail _ hp)))))
        · intro c2 e2
          have e3 : c' = c2 := by
            have e4 := congrArg (fun x : Array Value => x[2]?) e2
            simpa using e4
          rw [← e3]
          refine freshN hg N4 (.tail _ (.tail _ (.tail _ (.head _)))) (fun p hp => ?_)
          rcases List.mem_cons.mp hp with rfl | hp
          · exact Nat.ne_of_lt l2.1
          · exact Nat.ne_of_lt (allLt_mem l2.2 p hp)
        · rcases List.mem_cons.mp hp with rfl | hp
          · exact off1_mem o4 ((112 : Nat), tabObj (#[] ++ #[rawInt (92 : Nat), rawInt (53 : Nat), Value.ref c'])) (.tail _ (.tail _ (.tail _ (.head _))))
          · exact off1_mem o4 _ (.tail _ (.tail _ (.tail _ (.tail _ hp))))
  · subst e
    have gc' := hg c oc gc (fun hm => by
      obtain ⟨p, hp, e2⟩ := List.mem_map.mp hm
      rcases List.mem_cons.mp hp with rfl | hp
      · exact absurd e2 (Nat.ne_of_lt lc)
      · have e3 := hat p (.tail _ hp)
        obtain ⟨us, n, e4⟩ := ht' p hp
        rw [e2, gc, e4] at e3
        have e5 := congrArg Obj.data (Option.some.inj e3)
        rw [dc] at e5
        exact nomatch e5)
    walk1
    walk1
    refine LCp.ListComp_P (F₀ := by k_asm) (by with_unfolding_all rfl) (by decide) (by rfl) (by decide) (by rfl) (by rfl) (by decide) ?_
    walk1
    walk1
    walk1
    walk1
    walk1
    walk1
    walk1
    refine kla_eval rfl ?_
    refine kla_hit (by assumption) (by assumption) (by assumption) (by assumption) rfl (.head _) (by kn_triples) (by kn_hit) rfl ?_
    intro f' ct' h' tk' F2 N2 l2
    try dsimp only at N2
    replace l2 := allLt_of l2
    simp only [AllLt, and_true] at l2
    k_sweep
    walk1
    show wpAny _ _ (call (.builtin "sorted") [.ref l] [(Str.ofString "key", .ref f')]) _ _ _
    refine ksk_sorted (kz := List.replicate vs.length 230) (b := false) (f := .ref f') F2 N2 (hl'.at fun o e => F2.keep _ _ e) (by simp) hlen (ksk_s1 _ _) (fun x => ksk_l1 _ _) (fun x => ksk_t1 _ _) ?turn ?done
    case turn =>
      intro i v k hvi hki h9 tk9 own F3 N3
      obtain ⟨a, t1, t2, n2, rfl, hm⟩ := hv v (List.mem_of_getElem? hvi)
      have hk : k = 230 := rep_get hki
      subst hk
      have htup : IsTup h9 a _ := ⟨_, (N3 _ (List.mem_append_left _ (.tail _ (.tail _ hm)))).1, rfl, _, rfl⟩
      refine wpAny_call ?_
      k_dflt (refine' kla_code ?k1 ?k2 ?k3 ?k4 ?k5 ?kA ?kF ?kK ?k6 ?k7 ?k8 ?k9 ?kB ?_ ?c2 ?c3 ?c4 ?c5; (case kA => exact rfl); (case kF => exact rfl); (case kK => exact rfl); (case k1 => k_asm); (case k2 => k_asm); (case k3 => k_asm); (case k4 => k_asm); (case k5 => k_asm); (case k6 => k_mem); (case k7 => exact ⟨c, oc, cvs, t, rfl, F3.keep _ _ gc', dc, qc⟩); (case k8 => k_room); (case k9 => exact rfl); (case c5 => decide); (case kB => exact locs rfl); (case c2 => exact rfl); (case c3 => exact rfl); (case c4 => exact rfl); k_whole; intro g' L' h' FG' F' N' B' X' T'; (try dsimp only); (try k_lift B'); (try k_fold))
      walk1
      walk1
      walk1
      refine item_tupleT (News.isTup (by assumption) (List.mem_append_left _ (.tail _ (.tail _ hm)))) (by decide) (by decide) rfl rfl ?_
      (repeat' (first | (k_unfold; (try dsimp only)) | walk1 | (dsimp only; walk1) | (leave1; (try dsimp only))))
    case done =>
      intro D h9 tk9 out c9 F3 N3 l9 ko
      obtain ⟨ko1, ko2⟩ := kskAll ko
      have ko3 : out.size = vs.length := by rw [← Array.length_toList, ko1]; simp
      refine LCp.SrcLP.ledger rfl F3 N3 (.head _) (by rw [sizeLine_eq, ko3]; omega) ?_
      intro g9
      rw [ko3]
      refine comp769 (N := vs.length) (fun i v hv' => ?_) (.inr ⟨_, .head _, rfl, _, rfl⟩) rfl (fun C => rfl) (fun ys hy => ?_) vs.length 0 [] (by omega) .nil
      · obtain ⟨a, t1, t2, n, e, hm⟩ := hv v (ko2 v (Array.mem_toList_iff.mpr (Array.mem_of_getElem? hv')))
        exact ⟨a, t1, t2, n, e, .tail _ (.tail _ (.tail _ hm))⟩
      · unfold LCg.FinE
        intro D' h4 tk4 F4 N4 o4
        refine ret D' ys _ h4 _ _ (kpB_of hg hat F4 N4 (fun p hp => ?_)) ⟨N4.get (.tail _ (.tail _ (.tail _ (.head _)))), .inr ⟨c, oc, cvs, t, rfl, lc, F4.keep _ _ gc', dc, qc⟩, .inl rfl⟩ (freshN hg N4 (.head _) (fun p hp => ?_)) (N4.get (.head _)) hy
        · rcases List.mem_cons.mp hp with rfl | hp
          · exact .inl rfl
          · exact .inr (.tail _ (.tail _ (.tail _ (.tail _ hp))))
        · rcases List.mem_cons.mp hp with rfl | hp
          · exact off1_mem o4 _ (.tail _ (.tail _ (.head _)))
          · exact off1_mem o4 _ (.tail _ (.tail _ (.tail _ hp)))

end
section
theorem off_kc : True := by
  w_top off
  trivial
/-- all objects with a class stay -/
abbrev KpC (h h' : Heap) : Prop := ∀ b o, o.cls ≠ .none → h.get? b = some o → h'.get? b = some o
theorem Kp.c {h h' : Heap} (k : Kp h h') : KpC h h' := fun b o _ e => k b o e
theorem KpB.c {h h' : Heap} {ps : Array Value} (k : KpB h h') (e : h.get? 112 = some (tabObj ps)) : KpC h h' := fun b o n q => k b o (fun x => by
  rw [x, e] at q
  exact n (congrArg Obj.cls (Option.some.inj q)).symm) q
theorem Tab.c {h h' : Heap} (t : Tab h) (k : KpB h h') : KpC h h' := let ⟨_, e, _⟩ := t; k.c e
theorem off_of_cls {hs g : Heap} {news : List (Addr × Obj)} (hg : ∀ b o, hs.get? b = some o → b ∉ news.map (·.1) → g.get? b = some o) (hat : ∀ p ∈ news, hs.get? p.1 = some p.2) (hc : ∀ p ∈ news, p.2.cls = .none) : KpC hs g := fun b o n e => hg b o e (fun hm => by
  obtain ⟨p, hp, rfl⟩ := List.mem_map.mp hm
  have e2 := hat p hp
  rw [e] at e2
  exact n ((congrArg Obj.cls (Option.some.inj e2)).trans (hc p hp)))
section
variable {prog : Program} {w : World} {K : Type} [DecidableEq K] {knd : KeyKind prog w K} {d : Addr} {kvs : List (K × Value)}
theorem dictKeepC {h h' : Heap} (a : h.DictOf knd d kvs) (k : KpC h h') : h'.DictOf knd d kvs :=
  let ⟨o, es, ep, e, r⟩ := a; ⟨o, es, ep, k _ _ (by rw [r.1.1]; exact nofun) e, r⟩
end
theorem RAt.monoC {h h' : Heap} {r dx st vl : Addr} {ns : List Int} {vs : List Value} {dflt : Value} (a : RAt h r ns vs dflt dx st vl) (k : KpC h h') : RAt h' r ns vs dflt dx st vl :=
  ⟨k _ _ nofun a.inst, let ⟨h1, h2, h3, t1, t2, t3, n, e⟩ := a.dict; ⟨h1, h2, h3, t1, t2, t3, n, k _ _ nofun e⟩, let ⟨sv, n, e, i⟩ := a.starts; ⟨sv, n, k _ _ nofun e, i⟩, let ⟨n, e⟩ := a.values; ⟨n, k _ _ nofun e⟩⟩
theorem DAt.monoC {w : World} {h h' : Heap} {d : Addr} {a : DP} (D : DAt w h d a) (k : KpC h h') : DAt w h' d a where
  inst := k _ _ nofun D.inst
  dict := let ⟨h1, h2, h3, h4, t1, t2, t3, t4, p, q, n, e⟩ := D.dict; ⟨h1, h2, h3, h4, t1, t2, t3, t4, p, q, n, k _ _ nofun e⟩
  dflt := let ⟨kvs, e, r⟩ := D.dflt; ⟨kvs, dictKeepC e k, r⟩
  lodf := D.lodf
  maps := dictKeepC D.maps k
  lomp := D.lomp
  ccc := let ⟨x, y, z, t, e⟩ := D.ccc; ⟨x, y, z, t, e.monoC k⟩
  dm := D.dm.monoC k
  cf := D.cf.monoC k
  t1 := let ⟨t, n, e⟩ := D.t1; ⟨t, n, k _ _ nofun e⟩
  t2 := let ⟨t, n, e⟩ := D.t2; ⟨t, n, k _ _ nofun e⟩
  t3 := let ⟨t, n, e⟩ := D.t3; ⟨t, n, k _ _ nofun e⟩
  t4 := let ⟨t, n, e⟩ := D.t4; ⟨t, n, k _ _ nofun e⟩
  t5 := let ⟨t, n, e⟩ := D.t5; ⟨t, n, k _ _ nofun e⟩

/-- what a call of a def that reaches the table asks of the place -/
def HereT (w : World) (A : Around) (h : Heap) : Prop := ∃ ps, HereN w A h [((112 : Nat), tabObj ps)] ∧ TabPs h ps
/-- what such a def that made a list of ints gives back -/
abbrev RetL (s : Shared) (ns : List Int) (Q : Value → Shared → Prop) : Prop :=
  ∀ l vs n h' tk', KpB s.heap h' → Tab h' → s.heap.get? l = none → h'.get? l = some (listOf vs.toArray n) → IntsAre vs ns → Q (.ref l) { s with heap := h', toks := tk' }

section
variable {prog : Program} {w : World} {A : Around} {E : Value → Shared → Prop} {s : Shared} {h₀ : Heap} {L D : Addr} {m : Str → Option Value} {news news' : List (Addr × Obj)}
/-- a list of the ledger takes in all of another list -/
theorem ext_any {its : Array Value} {n n2 : Nat} {b : Addr} {its2 : Array Value} {Q : Value → Shared → Prop} (F : Fr h₀ L s.heap m) (N : News h₀ L s.heap news) (hb : s.heap.get? b = some (listOf its2 n2))
    (U : ∀ n', ∃ news', Upd D (listOf its n) (listOf (its.toList ++ its2.toList).toArray n') news news' ∧ (∀ h', Fr h₀ L h' m → News h₀ L h' news' → Q .none { s with heap := h' })) (hz : its.size + its2.size < 1000000) :
    wpAny (model prog w) A (call (.builtin "list.extend") [.ref D, .ref b]) Q E s := by
  have hs : sizeLine = 16777216 := by rw [sizeLine_eq]
  have hd : ¬(!its.isEmpty && Builtin.List.listTooLong (its.size + its2.size)) = true := by
    unfold Builtin.List.listTooLong
    simp
    intro _
    omega
  by_cases h0 : its2.size = 0
  · obtain ⟨news', U', h⟩ := U n
    obtain ⟨pre, post, rfl, rfl, a, c⟩ := U'.split
    have z := N (D, listOf its n) (List.mem_append.mpr (.inr (.head _)))
    refine call_meets PySem.F.slot_list_extend ⟨_, z.1, rfl⟩ PySem.F.entry_list_extend (PySem.F.args_list_extend_2 _ _) (PySem.AutoSeq1.list_extend_list_list_0 D its n b its2 n2 hd (by first | omega | (simp only [Array.length_toList]; omega)) (by omega)) ⟨z.1, hb, h _ (F.change (Heap.SameBut.update ..) z.2.1 z.2.2) (kl_turn0 _ N a c ?_ ?_)⟩
    · apply Array.toList_inj.mp
      simp
    · simpa using Array.size_eq_zero_iff.mp h0
  · obtain ⟨news', U', h⟩ := U (n + 1)
    obtain ⟨pre, post, rfl, rfl, a, c⟩ := U'.split
    have z := N (D, listOf its n) (List.mem_append.mpr (.inr (.head _)))
    refine call_meets PySem.F.slot_list_extend ⟨_, z.1, rfl⟩ PySem.F.entry_list_extend (PySem.F.args_list_extend_2 _ _) (PySem.AutoSeq1.list_extend_list_list_0 D its n b its2 n2 hd (by first | omega | (simp only [Array.length_toList]; omega)) (by omega)) ⟨z.1, hb, h _ (F.change (Heap.SameBut.update ..) z.2.1 z.2.2) (kl_turn _ N a c ?_ ?_)⟩
    · apply Array.toList_inj.mp
      simp
    · simpa using fun e => h0 (by rw [e]; rfl)
end

end
section
theorem off_loopk : True := by
  w_top off
  trivial
theorem Fr.know {h₀ h : Heap} {L : Addr} {m : Str → Option Value} {x : Str} {v : Value} (F : Fr h₀ L h m) (e : m x = some v) : Fr h₀ L h (fun y => if y = x then some v else m y) := by
  have q : (fun y => if y = x then some v else m y) = m := funext fun y => by
    by_cases k : y = x
    · rw [if_pos k, k, e]
    · rw [if_neg k]
  rw [q]
  exact F
theorem forall_app {α : Type} {p : α → Prop} {a b : List α} (h1 : ∀ x ∈ a, p x) (h2 : ∀ x ∈ b, p x) : ∀ x ∈ a ++ b, p x := fun x hx => (List.mem_append.mp hx).elim (h1 x) (h2 x)

/-- the table's code is known: it is the base's, or one of these -/
def TabN (g : Heap) (all : List (Addr × Obj)) (ps : Array Value) : Prop :=
  ps = #[] ∨ ∃ (c : Nat) (oc : Obj) (vs : Array Value) (t : Tok), ps = #[rawInt 92, rawInt 53, .ref c] ∧ (112 : Nat) < c ∧ oc.data = .fields vs ∧ vs[1]? = some (.str (Str.ofString "form_sorted.<locals>.<lambda>") t) ∧ ((c, oc) ∈ all ∨ g.get? c = some oc)
theorem TabN.ps {g h : Heap} {L : Addr} {m : Str → Option Value} {rest all : List (Addr × Obj)} {ps : Array Value} (T : TabN g rest ps) (F : Fr g L h m) (N : News g L h all) (hs : ∀ p ∈ rest, p ∈ all) : TabPs h ps := by
  rcases T with e | ⟨c, oc, vs, t, e, l, d, q, m | m⟩
  · exact .inl e
  · exact .inr ⟨c, oc, vs, t, e, l, N.get (hs _ m), d, q⟩
  · exact .inr ⟨c, oc, vs, t, e, l, F.keep _ _ m, d, q⟩
theorem TabN.base {hs g : Heap} {ps : Array Value} (T : TabPs hs ps) (hg : ∀ b o, hs.get? b = some o → b ∉ [((112 : Nat), tabObj ps)].map (·.1) → g.get? b = some o) : TabN g [] ps := by
  rcases T with e | ⟨c, oc, vs, t, e, l, m, d, q⟩
  · exact .inl e
  · exact .inr ⟨c, oc, vs, t, e, l, d, q, .inr (hg _ _ m (fun x => absurd (List.mem_singleton.mp x) (Nat.ne_of_gt l)))⟩
theorem TabN.step {g h h' : Heap} {L : Addr} {m : Str → Option Value} {rest : List (Addr × Obj)} {ps ps' : Array Value} (T : TabN g rest ps) (F : Fr g L h m) (S : TabS h ps h' ps') :
    ∃ cx, (∀ p ∈ cx, h.get? p.1 = none) ∧ News g L h' cx ∧ TabN g (cx ++ rest) ps' := by
  obtain ⟨_, s2, s3⟩ := S
  rcases s3 with rfl | s3
  · exact ⟨[], fun p hp => absurd hp List.not_mem_nil, fun p hp => absurd hp List.not_mem_nil, T⟩
  · rcases s2 with e | ⟨c, oc, vs, t, e, l, m, d, q⟩
    · exact ⟨[], fun p hp => absurd hp List.not_mem_nil, fun p hp => absurd hp List.not_mem_nil, .inl e⟩
    · have hn := s3 c e
      refine ⟨[(c, oc)], fun p hp => by rw [List.mem_singleton.mp hp]; exact hn, fun p hp => ?_, .inr ⟨c, oc, vs, t, e, l, d, q, .inl (.head _)⟩⟩
      rw [List.mem_singleton.mp hp]
      refine ⟨m, fun e => ?_, ?_⟩
      · obtain ⟨oL, _, _, hL, _⟩ := F.ns
        rw [show L = c from e.symm, hn] at hL
        cases hL
      · cases x : g.get? c with
        | none => rfl
        | some o => rw [F.keep _ _ x] at hn; cases hn
/-- these stand in the heap, those do not yet -/
theorem off_new {g h : Heap} {L D : Addr} {cx all : List (Addr × Obj)} {o : Obj} (hn : ∀ p ∈ cx, h.get? p.1 = none) (N : News g L h all) (hm : (D, o) ∈ all) : ∀ p ∈ cx, p.1 ≠ D := fun p hp e => by
  have := hn p hp
  rw [e, N.get hm] at this
  cases this
theorem News.app {g h : Heap} {L : Addr} {a b : List (Addr × Obj)} (x : News g L h a) (y : News g L h b) : News g L h (a ++ b) := fun p hp => (List.mem_append.mp hp).elim (x p) (y p)
theorem ownOff_new {g h : Heap} {L : Addr} {own all cx : List (Addr × Obj)} (N : News g L h all) (ho : ∀ p ∈ own, p ∈ all) (hn : ∀ p ∈ cx, h.get? p.1 = none) : OwnOff own (cx.map (·.1)) := by
  intro p hp b hb e
  obtain ⟨q, hq, rfl⟩ := List.mem_map.mp hb
  have := hn q hq
  rw [← e, (N p (ho p hp)).1] at this
  cases this
theorem OwnOff.app {own : List (Addr × Obj)} {a b : List Addr} (x : OwnOff own a) (y : OwnOff own b) : OwnOff own (a ++ b) := fun p hp q hq => (List.mem_append.mp hq).elim (x p hp q) (y p hp q)
theorem OwnOff.cons {own : List (Addr × Obj)} {a : Addr} {b : List Addr} (x : ∀ p ∈ own, p.1 ≠ a) (y : OwnOff own b) : OwnOff own (a :: b) := fun p hp q hq => by
  rcases List.mem_cons.mp hq with e | hq
  · rw [e]; exact x p hp
  · exact y p hp q hq
theorem OwnOff.nil {own : List (Addr × Obj)} : OwnOff own [] := fun p hp q hq => absurd hq List.not_mem_nil
theorem OwnOff.sub {own : List (Addr × Obj)} {a b : List Addr} (x : OwnOff own b) (y : ∀ q ∈ a, q ∈ b) : OwnOff own a := fun p hp q hq => x p hp q (y q hq)
theorem size_any {n : Nat} (h : n < 1000000) : n ≤ sizeLine := by rw [sizeLine_eq]; omega
/-- the heap of a fact -/
abbrev gOf {g : Heap} {rest : List (Addr × Obj)} {ps : Array Value} (_ : TabN g rest ps) : Heap := g
theorem tups_of {rest : List (Addr × Obj)} : ∀ {vR : List Value}, (∀ v ∈ vR, ∃ a t1 t2 n, v = .ref a ∧ (a, tupOf [.int 230 t1, .int 769 t2] n) ∈ rest) →
    ∃ tl : List (Addr × Obj), (∀ v ∈ vR, ∃ a t1 t2 n, v = .ref a ∧ (a, tupOf [.int 230 t1, .int 769 t2] n) ∈ tl) ∧ (∀ p ∈ tl, p ∈ rest) ∧ ∀ p ∈ tl, ∃ us n, p.2 = tupOf us n
  | [], _ => ⟨[], fun v hv => absurd hv List.not_mem_nil, fun v hv => absurd hv List.not_mem_nil, fun v hv => absurd hv List.not_mem_nil⟩
  | v :: r, h => by
    obtain ⟨a, t1, t2, n, e, hm⟩ := h v (.head _)
    obtain ⟨tl, h1, h2, h3⟩ := tups_of (fun v hv => h v (.tail _ hv))
    refine ⟨(a, tupOf [.int 230 t1, .int 769 t2] n) :: tl, fun v hv => ?_, fun p hp => ?_, fun p hp => ?_⟩
    · rcases List.mem_cons.mp hv with rfl | hv
      · exact ⟨a, t1, t2, n, e, .head _⟩
      · obtain ⟨a, t1, t2, n, e, hm⟩ := h1 v hv
        exact ⟨a, t1, t2, n, e, .tail _ hm⟩
    · rcases List.mem_cons.mp hp with rfl | hp
      · exact hm
      · exact h2 p hp
    · rcases List.mem_cons.mp hp with rfl | hp
      · exact ⟨_, _, rfl⟩
      · exact h3 p hp
theorem ne_of_lt_all {D : Addr} {l : List (Addr × Obj)} (h : AllLt D l) : ∀ p ∈ l, p.1 ≠ D := fun p hp => Nat.ne_of_lt (allLt_mem h p hp)
theorem news_mid {g h : Heap} {L : Addr} {a b c : Addr × Obj} {cx r : List (Addr × Obj)} (x : News g L h cx) (y : News g L h ([a, b] ++ c :: r)) : News g L h (a :: b :: c :: (cx ++ r)) := fun p hp => by
  rcases List.mem_cons.mp hp with rfl | hp
  · exact y _ (.head _)
  rcases List.mem_cons.mp hp with rfl | hp
  · exact y _ (.tail _ (.head _))
  rcases List.mem_cons.mp hp with rfl | hp
  · exact y _ (.tail _ (.tail _ (.head _)))
  rcases List.mem_append.mp hp with hp | hp
  · exact x p hp
  · exact y _ (.tail _ (.tail _ (.tail _ hp)))
theorem TabN.sub {g : Heap} {a b : List (Addr × Obj)} {ps : Array Value} (T : TabN g a ps) (h : ∀ p ∈ a, p ∈ b) : TabN g b ps := by
  rcases T with e | ⟨c, oc, vs, t, e, l, d, q, m | m⟩
  · exact .inl e
  · exact .inr ⟨c, oc, vs, t, e, l, d, q, .inl (h _ m)⟩
  · exact .inr ⟨c, oc, vs, t, e, l, d, q, .inr m⟩
theorem ccc_pos {x : Int} (h : 0 < cccF x) : x = 769 := by
  unfold cccF at h
  by_cases e : x = 769
  · exact e
  · rw [if_neg e] at h; omega
theorem take_snoc {α : Type} {l : List α} {i : Nat} {x : α} (h : l[i]? = some x) : l.take (i + 1) = l.take i ++ [x] := by rw [List.take_add_one, h]; rfl

theorem HereN.inn {w : World} {A : Around} {h : Heap} {news : List (Addr × Obj)} (H : HereN w A h news) : (hd.heap_1 w.params).In h := by
  obtain ⟨dp, un, gd, cn, cs, L, a, ccd, cl, outer, A₀, base, h₀, m, mg, mb, loose, mean, rfl, hck, B, F, N, X₀, C, T⟩ := H
  exact X₀.keeps F.keep
abbrev News.a0 {g h : Heap} {L a : Addr} {o : Obj} {r : List (Addr × Obj)} (_ : News g L h ((a, o) :: r)) : Addr := a

end
local macro_rules | `(tactic| k_all) => `(tactic| first | with_reducible assumption | (refine forall_app ?a ?b; (case a => k_all); (case b => k_all)))
local macro_rules | `(tactic| walk_at "call builtin:list.extend") => `(tactic| ((with_reducible show wpAny _ _ (call (Value.builtin _) [Value.ref _, Value.ref _]) _ _ _); k_dflt (refine' ext_any ?F ?N ?b ?U ?z; (case F => k_asm); (case N => k_asm); (case b => first | with_reducible assumption | exact News.get (by k_asm) (by k_mem)); (case' U => (intro n'; (refine' ⟨_, ?u, ?k⟩); (case u => k_upd); intro h' F' N'; k_sweep)); (case z => ((try refine size_any ?_); (try simp only [List.size_toArray, Array.length_toList, List.length_append, List.length_cons, List.length_nil, List.length_replicate, Array.size_push]); (first | omega | (k_extra "size")))))))
local macro_rules | `(tactic| walk_at "call builtin:list.append") => `(tactic| ((with_reducible show wpAny _ _ (call (Value.builtin _) [Value.ref _, _]) _ _ _); k_dflt (refine' append_K ?k1 ?k2 ?k3 ?_ ?z; (case k1 => k_asm); (case k2 => k_asm); (case k3 => k_upd); (case z => ((try refine size_any ?_); (try simp only [List.size_toArray, Array.length_toList, List.length_append, List.length_cons, List.length_nil, List.length_replicate, Array.size_push]); (first | omega | (k_extra "size")))); k_whole); intro h' F' N'; (try k_sweep)))
section
theorem off_ordj : True := by
  w_top off
  trivial
def ordJ (d : Addr) (g : Heap) (ns : List Int) (i : Nat) (m : Str → Option Value) (nx : List (Addr × Obj)) : Prop := ∃ (fF fR : Addr) (fs : List Int) (r : Nat) (vF vR : List Value) (nF nR : Nat) (rest : List (Addr × Obj)) (ps : Array Value),
  m (Str.ofString "found") = some (.ref fF) ∧ m (Str.ofString "run") = some (.ref fR) ∧ m (Str.ofString "data") = some (.ref d) ∧
  nx = (fR, listOf vR.toArray nR) :: (fF, listOf vF.toArray nF) :: ((112 : Nat), tabObj ps) :: rest ∧ IntsAre vF fs ∧ vR.length = r ∧ (∀ v ∈ vR, ∃ a t1 t2 n, v = .ref a ∧ (a, tupOf [.int 230 t1, .int 769 t2] n) ∈ rest) ∧
  fs ++ List.replicate r 769 = ns.take i ∧ @LT.lt Nat _ fF fR ∧ @LT.lt Nat _ 112 fF ∧ (∀ p ∈ rest, p.1 ≠ fF) ∧ (∀ p ∈ rest, p.1 ≠ fR) ∧ (∀ p ∈ rest, p.1 ≠ (112 : Nat)) ∧ TabN g rest ps
section
variable {d : Addr} {g h h2 : Heap} {L : Addr} {m : Str → Option Value} {ns fs : List Int} {i r : Nat} {x : Int} {t t1 : Tok} {l' fR fF : Addr} {oR : Obj} {vF vR vs9 : List Value} {n1 n2 n3 : Nat} {ps ps9 : Array Value} {cx rest own : List (Addr × Obj)} {gs : Array GenState} {dr : Drawn} {os : OsState} {tk tk2 : Nat}
theorem ord_end2 (F7 : Fr g L h m) (N7 : News g L h ((l', listOf #[] n1) :: (fR, oR) :: (fF, listOf ((vF ++ vs9) ++ [Value.int x t]).toArray n2) :: ((112 : Nat), tabObj ps9) :: (cx ++ (rest ++ own)))) (l7 : @LT.lt Nat _ fR l' ∧ @LT.lt Nat _ fF l' ∧ @LT.lt Nat _ 112 l' ∧ AllLt l' (cx ++ (rest ++ own)))
    (m1 : m (Str.ofString "found") = some (.ref fF)) (m2 : m (Str.ofString "run") = some (.ref l')) (m3 : m (Str.ofString "data") = some (.ref d)) (es : ns.take (i + 1) = ns.take i ++ [x]) (i5 : fs ++ List.replicate r 769 = ns.take i) (i1 : IntsAre vF fs) (i2 : vR.length = r)
    (iv9 : IntsAre vs9 (List.replicate vR.length 769)) (o1 : ∀ p ∈ cx, p.1 ≠ fR) (o2 : ∀ p ∈ cx, p.1 ≠ fF) (o3 : ∀ p ∈ cx, p.1 ≠ (112 : Nat)) (o4 : OwnOff own (cx.map (·.1))) (hoff : OwnOff own (fR :: fF :: (112 : Nat) :: rest.map (·.1)))
    (q2 : @LT.lt Nat _ 112 fF) (q3 : ∀ p ∈ rest, p.1 ≠ fF) (q4 : ∀ p ∈ rest, p.1 ≠ fR) (q5 : ∀ p ∈ rest, p.1 ≠ (112 : Nat)) (c3 : TabN g (cx ++ rest) ps9) :
    InvEndG g L (ordJ d g ns (i + 1)) own ⟨h2, gs, dr, tk2, os⟩ ⟨h, gs, dr, tk, os⟩ := by
  obtain ⟨l71, l72, l73, l74⟩ := l7
  have l75 := ne_of_lt_all l74
  rw [← i5] at es
  refine InvEndG.intro F7 N7 (nx := (l', listOf [].toArray n1) :: (fF, listOf ((vF ++ vs9) ++ [Value.int x t]).toArray n2) :: ((112 : Nat), tabObj ps9) :: (cx ++ rest)) ⟨fF, l', fs ++ List.replicate vR.length 769 ++ [x], 0, vF ++ vs9 ++ [Value.int x t], [], n2, n1, cx ++ rest, ps9, m1, m2, m3, rfl, ints_snoc (i1.append iv9), rfl, fun v hv => absurd hv List.not_mem_nil, ?_, l72, q2, forall_app o2 q3, ?_, forall_app o3 q5, c3⟩ ?_ ?_ ?_
  · rw [es, ← i2]; simp
  · exact fun p hp => l75 p ((List.mem_append.mp hp).elim (List.mem_append_left _) (fun h => List.mem_append_right _ (List.mem_append_left _ h)))
  · refine OwnOff.cons (fun p hp => l75 p (List.mem_append_right _ (List.mem_append_right _ hp))) (OwnOff.cons (OwnOff.ne hoff (.tail _ (.head _))) (OwnOff.cons (OwnOff.ne hoff (.tail _ (.tail _ (.head _)))) ?_))
    have e := OwnOff.app o4 (OwnOff.sub hoff (fun q hq => .tail _ (.tail _ (.tail _ hq))))
    rw [← List.map_append] at e
    exact e
  · intro p hp
    rcases List.mem_cons.mp hp with rfl | hp
    · exact .head _
    rcases List.mem_cons.mp hp with rfl | hp
    · exact .tail _ (.tail _ (.head _))
    rcases List.mem_cons.mp hp with rfl | hp
    · exact .tail _ (.tail _ (.tail _ (.head _)))
    rcases List.mem_append.mp hp with hp | hp
    · exact .tail _ (.tail _ (.tail _ (.tail _ (List.mem_append_left _ hp))))
    · exact .tail _ (.tail _ (.tail _ (.tail _ (List.mem_append_right _ (List.mem_append_left _ hp)))))
  · exact fun p hp => .tail _ (.tail _ (.tail _ (.tail _ (List.mem_append_right _ (List.mem_append_right _ hp)))))
theorem ord_end1 (F7 : Fr g L h m) (N7 : News g L h ((l', tupOf [.int 230 t1, .int 769 t] n1) :: (fR, listOf (vR ++ [Value.ref l']).toArray n3) :: (fF, listOf vF.toArray n2) :: ((112 : Nat), tabObj ps) :: (rest ++ own))) (l7 : @LT.lt Nat _ fR l' ∧ @LT.lt Nat _ fF l' ∧ @LT.lt Nat _ 112 l' ∧ AllLt l' (rest ++ own))
    (m1 : m (Str.ofString "found") = some (.ref fF)) (m2 : m (Str.ofString "run") = some (.ref fR)) (m3 : m (Str.ofString "data") = some (.ref d)) (es : ns.take (i + 1) = ns.take i ++ [769]) (i5 : fs ++ List.replicate r 769 = ns.take i) (i1 : IntsAre vF fs) (i2 : vR.length = r)
    (i3 : ∀ v ∈ vR, ∃ a t1 t2 n, v = .ref a ∧ (a, tupOf [.int 230 t1, .int 769 t2] n) ∈ rest) (hoff : OwnOff own (fR :: fF :: (112 : Nat) :: rest.map (·.1)))
    (q1 : @LT.lt Nat _ fF fR) (q2 : @LT.lt Nat _ 112 fF) (q3 : ∀ p ∈ rest, p.1 ≠ fF) (q4 : ∀ p ∈ rest, p.1 ≠ fR) (q5 : ∀ p ∈ rest, p.1 ≠ (112 : Nat)) (c3 : TabN g rest ps) :
    InvEndG g L (ordJ d g ns (i + 1)) own ⟨h2, gs, dr, tk2, os⟩ ⟨h, gs, dr, tk, os⟩ := by
  obtain ⟨l71, l72, l73, l74⟩ := l7
  have l75 := ne_of_lt_all l74
  rw [← i5] at es
  refine InvEndG.intro F7 N7 (nx := (fR, listOf (vR ++ [Value.ref l']).toArray n3) :: (fF, listOf vF.toArray n2) :: ((112 : Nat), tabObj ps) :: ((l', tupOf [.int 230 t1, .int 769 t] n1) :: rest)) ⟨fF, fR, fs, r + 1, vF, vR ++ [Value.ref l'], n2, n3, (l', tupOf [.int 230 t1, .int 769 t] n1) :: rest, ps, m1, m2, m3, rfl, i1, ?_, ?_, ?_, q1, q2, List.forall_mem_cons.mpr ⟨Nat.ne_of_gt l72, q3⟩, List.forall_mem_cons.mpr ⟨Nat.ne_of_gt l71, q4⟩, List.forall_mem_cons.mpr ⟨Nat.ne_of_gt l73, q5⟩, c3.sub (fun p hp => .tail _ hp)⟩ ?_ ?_ ?_
  · rw [List.length_append, i2]; rfl
  · intro v hv
    rcases List.mem_append.mp hv with hv | hv
    · obtain ⟨a, t1, t2, n, e, hm⟩ := i3 v hv
      exact ⟨a, t1, t2, n, e, .tail _ hm⟩
    · rw [List.mem_singleton.mp hv]
      exact ⟨_, _, _, _, rfl, .head _⟩
  · rw [es, rep_snoc]; simp
  · refine OwnOff.cons (OwnOff.ne hoff (.head _)) (OwnOff.cons (OwnOff.ne hoff (.tail _ (.head _))) (OwnOff.cons (OwnOff.ne hoff (.tail _ (.tail _ (.head _)))) (OwnOff.cons (fun p hp => l75 p (List.mem_append_right _ hp)) ?_)))
    exact OwnOff.sub hoff (fun q hq => .tail _ (.tail _ (.tail _ hq)))
  · intro p hp
    rcases List.mem_cons.mp hp with rfl | hp
    · exact .tail _ (.head _)
    rcases List.mem_cons.mp hp with rfl | hp
    · exact .tail _ (.tail _ (.head _))
    rcases List.mem_cons.mp hp with rfl | hp
    · exact .tail _ (.tail _ (.tail _ (.head _)))
    rcases List.mem_cons.mp hp with rfl | hp
    · exact .head _
    · exact .tail _ (.tail _ (.tail _ (.tail _ (List.mem_append_left _ hp))))
  · exact fun p hp => .tail _ (.tail _ (.tail _ (.tail _ (List.mem_append_right _ hp))))
end

end
section
theorem off_ord : True := by
  w_top off
  trivial
local macro_rules | `(tactic| walk_at "newList") => `(tactic| (k_dflt (refine' newList_K ?k1 ?k2 ?_; (case k1 => k_asm); (case k2 => k_asm); k_whole); intro l' h' F' N' l1; (try k_lt l1); (try k_sweep)))
local macro_rules | `(tactic| walk_at "newTuple") => `(tactic| (k_dflt (refine' kup_newTuple ?F ?N ?_ ?z; (case F => k_asm); (case N => k_asm); (case z => kmk_size)); intro D' h' F' N' l1; (try k_lt l1); (try k_sweep)))
local macro_rules | `(tactic| k_lt $h) => `(tactic| (replace $h:ident := allLt_of $h:ident; simp only [AllLt, and_true] at $h:ident))
theorem ordered_call {w : World} {A : Around} {s : Shared} {Q E : Value → Shared → Prop} {l d : Addr} {vs : List Value} {n : Nat} {ns : List Int} {a : DP}
    (H : HereT w A s.heap) (R : Room A 5) (D : DAt w s.heap d a) (hl : s.heap.get? l = some (listOf vs.toArray n)) (hi : IntsAre vs ns) (hc : ∀ x ∈ ns, x ∈ codes) (hlen : ns.length < 60) (ret : RetL s ns Q) :
    wpAny (model PR w) A (call (.ref 110) [.ref l, .ref d]) Q E s := by
  obtain ⟨ps, H, hps⟩ := H
  have hat := H.at
  have D' := fun g hg => D.monoC (off_of_cls (g := g) hg hat (fun p hp => by rw [List.mem_singleton.mp hp]))
  have hl' := fun g hg => off_of_cls (g := g) hg hat (fun p hp => by rw [List.mem_singleton.mp hp]) _ _ (by nofun) hl
  refine wpAny_call ?_
  k_dflt (refine' enterN ?enH12 ?enR12 ?en612 ?en712 ?en912 ?enB12 ?_ ?ec212 ?ec312 ?ec412 ?ec512; (case enH12 => assumption); (case enR12 => assumption); (case en612 => k_is); (case en712 => k_is); (case en912 => first | exact BindsTo.of_eq rfl | exact binds_K (by assumption) rfl (by k_is) rfl rfl rfl); (case ec512 => decide); (case enB12 => exact locs rfl); (case ec212 => exact rfl); (case ec312 => exact rfl); (case ec412 => exact rfl); k_whole; intro enq01 enq02 enq03 enq04 enq05 enq06 enq07 enq08 enq09 enq10 enq11 enq12 enq13 enq14 enq15 enq16 enq17 enq18 enq19 enq20 enq21 enq22 enq23 enq24 enq25 enq26 enq27 enq28 enq29 enq30 enq31 enq32 enq33; (try k_lt enq29); (try dsimp only); (try k_fold))
  clear H
  rename ∀ b o, s.heap.get? b = some o → _ => hg
  rename ∀ b o, _ → s.heap.get? b = some o => hs
  replace D := D' _ hg
  replace hl := isListOf (hl' _ hg)
  have hT := TabN.base hps hg
  clear D' hl'
  iterate 22 walk1
  ((rename Fr _ _ _ _ => lF'); (with_unfolding_all refine' For_invVF lF' ?fi1 ?fi2 ?_; (case fi1 => exact rfl); (case fi2 => exact rfl); k_whole))
  walk1
  rename News _ _ _ _ => N0
  refine iter_invG (ordJ d (gOf hT) ns)
    rfl hl hi (by k_asm) (fun p hp => N0 p (.tail _ hp)) ?hj ?turn ?done
  case hj =>
    refine ⟨_, _, [], 0, [], [], 0, 0, [], ps, ?f1, ?f2, ?f3, rfl, .nil, rfl, ?f4, rfl, ?f5, ?f6, ?f7, ?f8, ?f9, hT⟩
    case f1 => k_dflt rfl
    case f2 => k_dflt rfl
    case f3 => k_dflt rfl
    case f5 => omega
    case f6 => omega
    all_goals exact fun v hv => absurd hv List.not_mem_nil
  case turn =>
    clear N0
    rintro i x t m₁ nx h tk own hx ⟨oI, hI⟩ hoff ⟨fF, fR, fs, r, vF, vR, nF, nR, rest, ps', m1, m2, m3, rfl, i1, i2, i3, i5, q1, q2, q3, q4, q5, hT'⟩ F1 N1
    have hxc := hc x (List.mem_of_getElem? hx)
    have i6 : fs.length + r ≤ ns.length := by
      have e1 := congrArg List.length i5
      simp only [List.length_append, List.length_replicate, List.length_take] at e1
      omega
    have i7 := i1.length
    dsimp only [envOf, List.cons_append, List.map] at F1 N1 hoff hI
    k_sweep
    replace F1 := Fr.know (Fr.know (Fr.know F1 (x := Str.ofString "found") (by k_dflt (exact m1))) (x := Str.ofString "run") (by k_dflt (exact m2))) (x := Str.ofString "data") (by k_dflt (exact m3))
    obtain ⟨tl, j1, j2, j3⟩ := tups_of i3
    have hsub : ∀ p ∈ ((112 : Nat), tabObj ps') :: tl, p ∈ (fR, listOf vR.toArray nR) :: (fF, listOf vF.toArray nF) :: ((112 : Nat), tabObj ps') :: (rest ++ own) := fun p hp => by
      rcases List.mem_cons.mp hp with rfl | hp
      · exact .tail _ (.tail _ (.head _))
      · exact .tail _ (.tail _ (.tail _ (List.mem_append_left _ (j2 p hp))))
    have hsub2 : ∀ p ∈ rest, p ∈ (fR, listOf vR.toArray nR) :: (fF, listOf vF.toArray nF) :: ((112 : Nat), tabObj ps') :: (rest ++ own) := fun p hp => .tail _ (.tail _ (.tail _ (List.mem_append_left _ hp)))
    have w112 : ∀ p ∈ rest ++ own, p.1 ≠ (112 : Nat) := forall_app q5 (OwnOff.ne hoff (.tail _ (.tail _ (.head _))))
    have wF : ∀ p ∈ rest ++ own, p.1 ≠ fF := forall_app q3 (OwnOff.ne hoff (.tail _ (.head _)))
    have wR : ∀ p ∈ rest ++ own, p.1 ≠ fR := forall_app q4 (OwnOff.ne hoff (.head _))
    iterate 42 walk1
    rotate_left
    · iterate 14 walk1
      rename Fr _ _ _ _ => F5
      rename News _ _ _ _ => N5
      refine fsort_call (tl := tl) (HereN.mk F5 N5 hsub (by k_asm) (by k_asm) (by k_asm) (by k_asm) rfl) (Room.less (by assumption) (by decide)) (hT'.ps F5 N5 hsub2) j3 (N5.get (.head _)) (by omega) j1 ?_
      intro l9 vs9 n9 h9 tk9 ps9 k9 S9 fr9 gl9 iv9
      (obtain ⟨cx, c1, c2, c3⟩ := hT'.step F5 S9)
      (have o1 := off_new c1 N5 (.head _))
      (have o2 := off_new c1 N5 (.tail _ (.head _)))
      (have o3 := off_new c1 N5 (.tail _ (.tail _ (.head _))))
      (have o4 := ownOff_new (own := own) N5 (fun p hp => .tail _ (.tail _ (.tail _ (List.mem_append_right _ hp)))) c1)
      (have F6 := frB F5 N5 (.tail _ (.tail _ (.head _))) k9)
      (have N6 := newsB (rest := [(fR, listOf vR.toArray nR), (fF, listOf vF.toArray nF)]) N5 (by k_all) w112 k9 S9.1)
      (replace N6 := news_mid c2 N6)
      clear F5 N5 k9 c1 c2
      have i8 := iv9.length
      rw [List.length_replicate] at i8
      (repeat' (first | (k_unfold; (try dsimp only)) | walk1 | (dsimp only; walk1) | (leave1; (try dsimp only))))
      rename Fr _ _ _ _ => F7
      rename News _ _ _ _ => N7
      rename _ ∧ _ ∧ _ ∧ AllLt _ _ => l7
      simp only [List.push_toArray] at N7
      exact ord_end2 F7 N7 l7 (by k_dflt rfl) (by k_dflt rfl) (by k_dflt rfl) (take_snoc hx) i5 i1 i2 iv9 o1 o2 o3 o4 hoff q2 q3 q4 q5 c3
    · rename Fr _ _ _ _ => F7
      rename News _ _ _ _ => N7
      rename _ ∧ _ ∧ _ ∧ AllLt _ _ => l7
      rename 0 < cccF x => hx9
      have e9 := ccc_pos hx9
      subst e9
      simp only [List.push_toArray] at N7
      exact ord_end1 F7 N7 l7 (by k_dflt rfl) (by k_dflt rfl) (by k_dflt rfl) (take_snoc hx) i5 i1 i2 i3 hoff q1 q2 q3 q4 q5 hT'
  case done =>
    clear N0
    rintro m₁ nx h tk ⟨fF, fR, fs, r, vF, vR, nF, nR, rest, ps', m1, m2, m3, rfl, i1, i2, i3, i5, q1, q2, q3, q4, q5, hT'⟩ F1 N1
    rw [List.take_length] at i5
    have i6 : fs.length + r = ns.length := by
      have e1 := congrArg List.length i5
      simp only [List.length_append, List.length_replicate] at e1
      omega
    have i7 := i1.length
    dsimp only [envOf] at F1 N1
    k_sweep
    replace F1 := Fr.know (Fr.know (Fr.know F1 (x := Str.ofString "found") m1) (x := Str.ofString "run") (by k_dflt (exact m2))) (x := Str.ofString "data") (by k_dflt (exact m3))
    obtain ⟨tl, j1, j2, j3⟩ := tups_of i3
    have hsub : ∀ p ∈ ((112 : Nat), tabObj ps') :: tl, p ∈ (fR, listOf vR.toArray nR) :: (fF, listOf vF.toArray nF) :: ((112 : Nat), tabObj ps') :: rest := fun p hp => by
      rcases List.mem_cons.mp hp with rfl | hp
      · exact .tail _ (.tail _ (.head _))
      · exact .tail _ (.tail _ (.tail _ (j2 p hp)))
    iterate 14 walk1
    rename Fr _ _ _ _ => F5
    rename News _ _ _ _ => N5
    refine fsort_call (tl := tl) (HereN.mk F5 N5 hsub (by k_asm) (by k_asm) (by k_asm) (by k_asm) rfl) (Room.less (by assumption) (by decide)) (hT'.ps F5 N5 (fun p hp => .tail _ (.tail _ (.tail _ hp)))) j3 (N5.get (.head _)) (by omega) j1 ?_
    intro l9 vs9 n9 h9 tk9 ps9 k9 S9 fr9 gl9 iv9
    obtain ⟨cx, c1, c2, c3⟩ := hT'.step F5 S9
    have o1 := off_new c1 N5 (.head _)
    have o2 := off_new c1 N5 (.tail _ (.head _))
    have o3 := off_new c1 N5 (.tail _ (.tail _ (.head _)))
    have F6 := frB F5 N5 (.tail _ (.tail _ (.head _))) k9
    have N6 := newsB (rest := [(fR, listOf vR.toArray nR), (fF, listOf vF.toArray nF)]) N5 (by k_all) q5 k9 S9.1
    replace N6 := news_mid c2 N6
    clear F5 N5 k9 c1 c2
    have i8 := iv9.length
    rw [List.length_replicate] at i8
    walk1
    refine' ext_any ?F ?N ?b ?U ?z
    case F => k_asm
    case N => k_asm
    case b => first | with_reducible assumption | exact News.get (by k_asm) (by k_mem)
    case' U =>
        intro n'
        refine' ⟨_, ?u, ?k⟩
        case u => k_upd
        intro h' F' N'
        k_sweep
    case z => ((try refine size_any ?_); (try simp only [List.size_toArray, Array.length_toList, List.length_append, List.length_cons, List.length_nil, List.length_replicate, Array.size_push]); (first | omega | (k_extra "size")))
    (repeat' (first | (k_unfold; (try dsimp only)) | walk1 | (dsimp only; walk1) | (leave1; (try dsimp only))))
    rename Fr _ _ _ _ => F7
    rename News _ _ _ _ => N7
    refine ret fF (vF ++ vs9) _ _ _ (kpB_of hg hat F7 N7 (fun p hp => .inl (by rw [List.mem_singleton.mp hp]))) ⟨ps9, N7.get (.tail _ (.tail _ (.head _))), c3.ps F7 N7 (fun p hp => .tail _ (.tail _ (.tail _ hp)))⟩ (freshN hg N7 (.tail _ (.head _)) (fun p hp => by rw [List.mem_singleton.mp hp]; exact Nat.ne_of_lt q2)) (N7.get (.tail _ (.head _))) ?_
    rw [← i5, ← i2]
    exact i1.append iv9

end
local macro_rules | `(tactic| walk_at "zz") => `(tactic| fail)
local macro_rules | `(tactic| walk_at "zz") => `(tactic| fail)
local macro_rules | `(tactic| walk_at "zz") => `(tactic| fail)
section
theorem off_dec : True := by
  w_top off
  trivial
theorem ltRaw {d a : Addr} {o : Obj} {l : List (Addr × Obj)} (h : ∀ p ∈ l, p.1 < d) (m : (a, o) ∈ l) : @LT.lt Nat _ a d := h _ m
theorem expF_codes : ∀ x ∈ codes, ∀ y ∈ expF x, y ∈ codes := by decide
theorem expF_len (x : Int) : (expF x).length ≤ 2 := by
  unfold expF
  by_cases h1 : x = 201
  · simp [h1]
  · by_cases h2 : x = 233
    · simp [h2]
    · simp [h1, h2]
theorem exp_len2 {vs : List Value} {x : Int} (h : IntsAre vs (expF x)) : vs.length ≤ 2 := by rw [h.length]; exact expF_len x
def nfdF (ns : List Int) : List Int := ns.flatMap expF
theorem nfdF_codes {ns : List Int} (h : ∀ x ∈ ns, x ∈ codes) : ∀ x ∈ nfdF ns, x ∈ codes := fun x hx => by
  obtain ⟨y, hy, hx⟩ := List.mem_flatMap.mp hx
  exact expF_codes y (h y hy) x hx
theorem nfdF_len : ∀ ns : List Int, (nfdF ns).length ≤ 2 * ns.length
  | [] => Nat.le_refl _
  | n :: r => by
    have h1 := nfdF_len r
    have h2 := expF_len n
    unfold nfdF at h1 ⊢
    rw [List.flatMap_cons, List.length_append, List.length_cons]
    omega
theorem nfdF_take {ns : List Int} {i : Nat} {x : Int} (h : ns[i]? = some x) : nfdF (ns.take (i + 1)) = nfdF (ns.take i) ++ expF x := by
  rw [take_snoc h]
  unfold nfdF
  rw [List.flatMap_append, List.flatMap_cons, List.flatMap_nil, List.append_nil]
theorem fresh_back {hs h : Heap} {l : Addr} {o : Obj} (k : KpB hs h) (e : h.get? 112 = some o) (f : h.get? l = none) : hs.get? l = none := by
  cases q : hs.get? l with
  | none => rfl
  | some o' =>
    by_cases q2 : l = (112 : Nat)
    · rw [q2, e] at f; cases f
    · rw [k l o' q2 q] at f; cases f
def decJ (d fF : Addr) (ps : Array Value) (ns : List Int) (i : Nat) (m : Str → Option Value) (nx : List (Addr × Obj)) : Prop :=
  ∃ (vF : List Value) (nF : Nat), m (Str.ofString "found") = some (.ref fF) ∧ m (Str.ofString "data") = some (.ref d) ∧ m (Str.ofString "is_compat") = some (.bool false) ∧ nx = [(fF, listOf vF.toArray nF), ((112 : Nat), tabObj ps)] ∧ IntsAre vF (nfdF (ns.take i))
theorem dec_end {g h h2 : Heap} {L fF dd : Addr} {m : Str → Option Value} {ns : List Int} {i : Nat} {x : Int} {vF vs9 : List Value} {n1 : Nat} {ps : Array Value} {own : List (Addr × Obj)} {gs : Array GenState} {dr : Drawn} {os : OsState} {tk tk2 : Nat}
    (F7 : Fr g L h m) (N7 : News g L h ((fF, listOf (vF ++ vs9).toArray n1) :: ((112 : Nat), tabObj ps) :: own)) (m1 : m (Str.ofString "found") = some (.ref fF)) (m2 : m (Str.ofString "data") = some (.ref dd)) (m3 : m (Str.ofString "is_compat") = some (.bool false))
    (hx : ns[i]? = some x) (i1 : IntsAre vF (nfdF (ns.take i))) (i2 : IntsAre vs9 (expF x)) (hoff : OwnOff own [fF, (112 : Nat)]) :
    InvEndG g L (decJ dd fF ps ns (i + 1)) own ⟨h2, gs, dr, tk2, os⟩ ⟨h, gs, dr, tk, os⟩ := by
  refine InvEndG.intro F7 N7 (nx := [(fF, listOf (vF ++ vs9).toArray n1), ((112 : Nat), tabObj ps)]) ⟨vF ++ vs9, n1, m1, m2, m3, rfl, ?_⟩ hoff (fun p hp => ?_) (fun p hp => .tail _ (.tail _ hp))
  · rw [nfdF_take hx]; exact i1.append i2
  · rcases List.mem_cons.mp hp with rfl | hp
    · exact .head _
    · rw [List.mem_singleton.mp hp]; exact .tail _ (.head _)
local macro_rules | `(tactic| walk_at "call ref") => `(tactic| ((with_reducible show wpAny _ _ (call (Value.ref 103) _) _ _ _); k_dflt (refine' fexp_call ?kH ?kR ?kD ?kx ?_; (case kH => ktr_rel); (case kR => ktr_room); (case kD => exact DAt.mono (by with_reducible assumption) (Fr.keep (by with_reducible assumption))); (case kx => first | with_reducible assumption | k_extra "codes"); intro l9 vs9 n9 h9 tk9 k9 fr9 gl9 iv9; (have F9 := Fr.keeps (by with_reducible assumption) k9); (have N9 := News.grown (by with_reducible assumption) k9); (have le9 := exp_len2 iv9); clear k9; k_sweep)))
theorem dec_call {w : World} {A : Around} {s : Shared} {Q E : Value → Shared → Prop} {l d : Addr} {vs : List Value} {n : Nat} {ns : List Int} {a : DP}
    (H : HereT w A s.heap) (R : Room A 6) (D : DAt w s.heap d a) (hl : s.heap.get? l = some (listOf vs.toArray n)) (hi : IntsAre vs ns) (hc : ∀ x ∈ ns, x ∈ codes) (hlen : ns.length < 30) (ret : RetL s (nfdF ns) Q) :
    wpAny (model PR w) A (call (.ref 123) [.ref l, .ref d, .bool false]) Q E s := by
  obtain ⟨ps, H, hps⟩ := H
  have hat := H.at
  have hX := H.inn
  have D' := fun g hg => D.monoC (off_of_cls (g := g) hg hat (fun p hp => by rw [List.mem_singleton.mp hp]))
  have hl' := fun g hg => off_of_cls (g := g) hg hat (fun p hp => by rw [List.mem_singleton.mp hp]) _ _ (by nofun) hl
  refine wpAny_call ?_
  k_dflt (refine' enterN ?enH13 ?enR13 ?en613 ?en713 ?en913 ?enB13 ?_ ?ec213 ?ec313 ?ec413 ?ec513; (case enH13 => assumption); (case enR13 => assumption); (case en613 => k_is); (case en713 => k_is); (case en913 => first | exact BindsTo.of_eq rfl | exact binds_K (by assumption) rfl (by k_is) rfl rfl rfl); (case ec513 => decide); (case enB13 => exact locs rfl); (case ec213 => exact rfl); (case ec313 => exact rfl); (case ec413 => exact rfl); k_whole; intro enq01 enq02 enq03 enq04 enq05 enq06 enq07 enq08 enq09 enq10 enq11 enq12 enq13 enq14 enq15 enq16 enq17 enq18 enq19 enq20 enq21 enq22 enq23 enq24 enq25 enq26 enq27 enq28 enq29 enq30 enq31 enq32 enq33; (try k_lt enq29); (try dsimp only); (try k_fold))
  clear H
  rename ∀ b o, s.heap.get? b = some o → _ => hg
  rename ∀ b o, _ → s.heap.get? b = some o => hs
  replace D := D' _ hg
  replace hl := isListOf (hl' _ hg)
  have hT := TabN.base hps hg
  clear D' hl'
  clear hX
  (repeat ((fail_if_success (with_reducible show wpAny _ _ (exec (Stmt.For _ _ _ _ _) _) _ _ _)); walk1))
  ((rename Fr _ _ _ _ => lF'); (with_unfolding_all refine' For_invVF lF' ?fi1 ?fi2 ?_; (case fi1 => exact rfl); (case fi2 => exact rfl); k_whole))
  walk1
  rename News _ _ _ _ => N0
  obtain ⟨fF, hfF⟩ : ∃ fF, fF = News.a0 N0 := ⟨_, rfl⟩
  have q2 : @LT.lt Nat _ 112 fF := by rw [hfF]; dsimp only [News.a0]; (refine' ltRaw ?la ?lm; (case la => with_reducible assumption); (case lm => k_mem))
  refine iter_invG (decJ d fF ps ns) rfl hl hi (by k_asm) N0 ?hj ?turn ?done
  case hj => subst hfF; exact ⟨[], 0, by k_dflt rfl, by k_dflt rfl, by k_dflt rfl, rfl, .nil⟩
  case turn =>
    clear hfF N0
    rintro i x t m₁ nx h tk own hx ⟨oI, hI⟩ hoff ⟨vF, nF, m1, m2, m3, rfl, i1⟩ F1 N1
    have hxc := hc x (List.mem_of_getElem? hx)
    have i7 := i1.length
    have i8 := nfdF_len (ns.take i)
    have i9 : (ns.take i).length ≤ ns.length := by rw [List.length_take]; omega
    dsimp only [envOf, List.cons_append, List.nil_append, List.map] at F1 N1 hoff hI
    k_sweep
    replace F1 := Fr.know (Fr.know (Fr.know F1 (x := Str.ofString "found") (by k_dflt (exact m1))) (x := Str.ofString "is_compat") (by k_dflt (exact m3))) (x := Str.ofString "data") (by k_dflt (exact m2))
    (repeat' (first | (k_unfold; (try dsimp only)) | walk1 | (dsimp only; walk1) | (leave1; (try dsimp only))))
    rename IntsAre _ (expF _) => iv9
    rename Fr _ _ _ _ => F7
    rename News _ _ _ _ => N7
    exact dec_end F7 N7 (by k_dflt rfl) (by k_dflt rfl) (by k_dflt rfl) hx i1 iv9 hoff
  case done =>
    clear hfF N0
    rintro m₁ nx h tk ⟨vF, nF, m1, m2, m3, rfl, i1⟩ F1 N1
    rw [List.take_length] at i1
    dsimp only [envOf] at F1 N1
    k_sweep
    replace F1 := Fr.know (Fr.know F1 (x := Str.ofString "found") m1) (x := Str.ofString "data") (by k_dflt (exact m2))
    (repeat ((fail_if_success (with_reducible show wpAny _ _ (call (Value.ref 110) _) _ _ _)); walk1))
    rename Fr _ _ _ _ => F5
    rename News _ _ _ _ => N5
    have i8 := nfdF_len ns
    refine ordered_call ⟨ps, HereN.mk F5 N5 (fun p hp => .tail _ hp) (by k_asm) (by k_asm) (by k_asm) (by k_asm) rfl, hT.ps F5 N5 (fun p hp => absurd hp List.not_mem_nil)⟩ (Room.less (by assumption) (by decide)) (D.mono F5.keep) (N5.get (.head _)) i1 (nfdF_codes hc) (by omega) ?_
    intro l9 vs9 n9 h9 tk9 k9 T9 fr9 gl9 iv9
    (repeat' (first | (k_unfold; (try dsimp only)) | walk1 | (dsimp only; walk1) | (leave1; (try dsimp only))))
    have k0 := kpB_of hg hat F5 N5 (fun p hp => .inl (by rw [List.mem_singleton.mp hp]))
    exact ret l9 vs9 n9 h9 _ (k0.trans k9) T9 (fresh_back k0 (N5.get (.tail _ (.head _))) fr9) gl9 iv9

end
local macro_rules | `(tactic| walk_at "zz") => `(tactic| fail)
local macro_rules | `(tactic| walk_at "zz") => `(tactic| fail)
section
theorem off_enumb : True := by
  w_top off
  trivial
section
variable {prog : Program} {w : World} {A : Around} {E : Value → Shared → Prop} {s : Shared} {env : Env} {h₀ : Heap} {body : List Stmt} {Q : Flow → Shared → Prop}
/-- for .. in enumerate(a list of the base): an invariant over frame and ledger -/
theorem enumB {elts : List PySem.Expr} {k : Nat} {pos : Pos} {l : Addr} {vs : List Value} {m₀ : Str → Option Value} {news : List (Addr × Obj)} (J : Nat → (Str → Option Value) → List (Addr × Obj) → Prop)
    (hh : A.handled = none) (hl : h₀.IsList l vs.toArray) (F : Fr h₀ env.locals s.heap m₀) (N : News h₀ env.locals s.heap news) (hj : J 0 m₀ news)
    (turn : ∀ (i : Nat) x T t m₁ nx h tk own, vs[i]? = some x → IsTup h T #[.int (i : Int) t, x] → OwnOff own (nx.map (·.1)) → J i m₁ nx → Fr h₀ env.locals h m₁ → News h₀ env.locals h (nx ++ own) →
      wpAny (model prog w) A (assign (.Tuple elts k pos) env (.ref T)) (fun _ s₃ => wpAny (model prog w) A (execs body env) (InvPostG h₀ env.locals (J (i + 1)) own { s with heap := h, toks := tk } Q) E s₃) E { s with heap := h, toks := tk })
    (done : ∀ m₁ nx h tk, J vs.length m₁ nx → Fr h₀ env.locals h m₁ → News h₀ env.locals h nx → Q .next { s with heap := h, toks := tk }) :
    wpAny (model prog w) A (call (.type "enumerate") [.ref l]) (fun xv s₁ => wpAny (model prog w) A (pyIter xv) (fun it s₂ => TurnsAt prog w A h₀ env (.Tuple elts k pos) body Q E it s₂) E s₁) E s := by
  have hls : s.heap.IsList l vs.toArray := hl.at fun o e => F.keep l o e
  obtain ⟨ol, hol, _⟩ := id hl
  have hlt0 : l < h₀.objs.size := Heap.lt_size hol
  have hLs : env.locals < s.heap.objs.size := F.ns.lt
  have hlL : l < env.locals := Nat.lt_of_lt_of_le hlt0 F.above
  have hlt : l < s.heap.objs.size := Nat.lt_trans hlL hLs
  have hsz : vs.toArray.size = vs.length := by simp
  refine call_enumerate_list hls fun h' hE hI hsz' hk => ?_
  refine wpAny_pyIter_enum hE ?_
  have W := KTurns.ofWalksU (elts := elts) (k := k) (pos := pos) (WalksT.enumerate (prog := prog) (w := w) hh (s.heap.objs.size + 1) s.heap.objs.size l (Nat.succ_ne_self _) (ktu_ne 1 hlt) (Nat.ne_of_lt hlt) vs.toArray).toU
  rw [hsz] at W
  refine ⟨_, _, _, vs.length, _, _, _, m₀, news, J, rfl, W, ?_, ?_, ?_, ⟨⟨.none, hE⟩, hI, hls.at fun o e => hk l o e⟩, F.keeps hk, N.grown hk, hj, ?_, ?_⟩
  · intro hm
    have hb : env.locals = s.heap.objs.size + 1 ∨ env.locals = s.heap.objs.size ∨ env.locals = l := by simpa using hm
    rcases hb with e | e | e
    · exact ktu_ne 1 hLs e
    · exact Nat.ne_of_lt hLs e
    · exact Nat.ne_of_gt hlL e
  · intro b hb
    have hb' : b = s.heap.objs.size + 1 ∨ b = s.heap.objs.size := by simpa using hb
    rcases hb' with rfl | rfl
    · exact ktu_new F (Nat.le_add_right _ _)
    · exact ktu_new F (Nat.le_refl _)
  · intro p hp hm
    have hb : p.1 = s.heap.objs.size + 1 ∨ p.1 = s.heap.objs.size := by simpa using hm
    have hlp := Heap.lt_size (N p hp).1
    rcases hb with e | e
    · exact ktu_ne 1 hlp e
    · exact Nat.ne_of_lt hlp e
  · rintro i v m₁ nx h₁ tk₁ own hin ⟨T, vals, rfl, ⟨t, x, hx, rfl⟩, hT⟩ hJ hoff hown hget hall ⟨⟨old, he⟩, ⟨oi, hoi, _⟩, _⟩ F₁ N₁
    have hx' : vs[i]? = some x := by simpa using hx
    have hsep : OwnOff own (nx.map (·.1)) := by
      intro p hp b hb e
      obtain ⟨q, hq, rfl⟩ := List.mem_map.mp hb
      have h1 := hown p hp
      have h2 : p.1 = s.heap.objs.size + 1 ∨ p.1 = s.heap.objs.size ∨ p.1 = l := by simpa using h1
      have h3 := hoff q hq
      rcases h2 with h2 | h2 | h2
      · exact h3 (by rw [← e, h2]; exact .head _)
      · exact h3 (by rw [← e, h2]; exact .tail _ (.head _))
      · have h4 := (N₁ p (List.mem_append_left _ hp)).2.2
        rw [h2, hol] at h4
        cases h4
    have N₂ : News h₀ env.locals h₁ (nx ++ own) := fun p hp => N₁ p ((List.mem_append.mp hp).elim (List.mem_append_right _) (List.mem_append_left _))
    have he' : ∃ oe : Obj, h₁.get? (s.heap.objs.size + 1) = some oe := ⟨_, he⟩
    obtain ⟨oe, he'⟩ := he'
    have o1 : (s.heap.objs.size + 1, oe) ∈ own := hall _ (.head _) (ktu_new F (Nat.le_add_right _ _)) _ he'
    have o2 : (s.heap.objs.size, oi) ∈ own := hall _ (.tail _ (.head _)) (ktu_new F (Nat.le_refl _)) _ hoi
    have fin : ∀ s₃, InvEndG h₀ env.locals (J (i + 1)) own { s with heap := h₁, toks := tk₁ } s₃ → LoopStepU h₀ env.locals [s.heap.objs.size + 1, s.heap.objs.size] own (J (i + 1)) { s with heap := h₁, toks := tk₁ } .next s₃ := by
      rintro s₃ ⟨h', tk, m', news', nx', e, F', N', hn, ho, ha, hm⟩
      refine ⟨rfl, h', tk, m', nx', e, F', fun p hp => N' p ((List.mem_append.mp hp).elim (ho p) (hn p)), fun p hp hq => ?_, hm⟩
      have hb : p.1 = s.heap.objs.size + 1 ∨ p.1 = s.heap.objs.size := by simpa using hq
      rcases hb with hb | hb
      · exact ha _ o1 p.1 (List.mem_map.mpr ⟨p, hp, rfl⟩) hb.symm
      · exact ha _ o2 p.1 (List.mem_map.mpr ⟨p, hp, rfl⟩) hb.symm
    refine wpAny_mono (turn i x T t m₁ nx h₁ tk₁ own hx' hT hsep hJ F₁ N₂) (fun _ s₂ h₂ => wpAny_mono h₂ (fun f s₃ p => ?_) fun _ _ e => e) fun _ _ e => e
    cases f with
    | ret v => exact .ret p
    | brk => exact .brk p
    | next => exact .next (fin _ p)
    | cont => exact .cont (fin _ p)
  · intro h' tk m' news' F' N' _ hJ
    exact done m' news' h' tk hJ F' N'
end
abbrev News.a1 {g h : Heap} {L a b : Addr} {o o' : Obj} {r : List (Addr × Obj)} (_ : News g L h ((b, o') :: (a, o) :: r)) : Addr := a

end
section
theorem off_rows : True := by
  w_top off
  trivial
local macro_rules | `(tactic| walk_at "newList") => `(tactic| (k_dflt (refine' newList_K ?k1 ?k2 ?_; (case k1 => k_asm); (case k2 => k_asm); k_whole); intro l' h' F' N' l1; (try k_lt l1); (try k_sweep)))
local macro_rules | `(tactic| walk_at "newTuple") => `(tactic| (k_dflt (refine' kup_newTuple ?F ?N ?_ ?z; (case F => k_asm); (case N => k_asm); (case z => kmk_size)); intro D' h' F' N' l1; (try k_lt l1); (try k_sweep)))
local macro_rules | `(tactic| k_lt $h) => `(tactic| (replace $h:ident := allLt_of $h:ident; simp only [AllLt, and_true] at $h:ident))
def rowLast (ns : List Int) (i : Nat) : Int := if i + 1 < ns.length then ns.getD (i + 1) 0 - 1 else 1114111
def rowsJ (st fF : Addr) (ns : List Int) (vs : List Value) (i : Nat) (m : Str → Option Value) (nx : List (Addr × Obj)) : Prop :=
  ∃ (vF : List Value) (nF : Nat) (rest : List (Addr × Obj)), m (Str.ofString "found") = some (.ref fF) ∧ m (Str.ofString "starts") = some (.ref st) ∧ nx = (fF, listOf vF.toArray nF) :: rest ∧ vF.length = i ∧
    (∀ k, k < i → ∃ p t1 t2 n v, vs[k]? = some v ∧ vF[k]? = some (.ref p) ∧ (p, tupOf [.int (ns.getD k 0) t1, .int (rowLast ns k) t2, v] n) ∈ rest) ∧ ∀ p ∈ rest, p.1 ≠ fF
theorem rows_end {g h h2 : Heap} {L st fF l' : Addr} {m : Str → Option Value} {ns : List Int} {vs vF : List Value} {i : Nat} {v : Value} {a b : Int} {t1 t2 : Tok} {n1 n2 : Nat} {rest own : List (Addr × Obj)} {gs : Array GenState} {dr : Drawn} {os : OsState} {tk tk2 : Nat}
    (F7 : Fr g L h m) (N7 : News g L h ((l', tupOf [.int a t1, .int b t2, v] n1) :: (fF, listOf (vF ++ [Value.ref l']).toArray n2) :: (rest ++ own))) (l7 : @LT.lt Nat _ fF l' ∧ AllLt l' (rest ++ own)) (m1 : m (Str.ofString "found") = some (.ref fF)) (m2 : m (Str.ofString "starts") = some (.ref st))
    (i1 : vF.length = i) (hx : vs[i]? = some v) (ha : a = ns.getD i 0) (hb : b = rowLast ns i) (i2 : ∀ k, k < i → ∃ p t1 t2 n v, vs[k]? = some v ∧ vF[k]? = some (.ref p) ∧ (p, tupOf [.int (ns.getD k 0) t1, .int (rowLast ns k) t2, v] n) ∈ rest)
    (q1 : ∀ p ∈ rest, p.1 ≠ fF) (hoff : OwnOff own (fF :: rest.map (·.1))) : InvEndG g L (rowsJ st fF ns vs (i + 1)) own ⟨h2, gs, dr, tk2, os⟩ ⟨h, gs, dr, tk, os⟩ := by
  subst ha hb
  obtain ⟨l71, l72⟩ := l7
  have l75 := ne_of_lt_all l72
  refine InvEndG.intro F7 N7 (nx := (fF, listOf (vF ++ [Value.ref l']).toArray n2) :: (l', tupOf [.int (ns.getD i 0) t1, .int (rowLast ns i) t2, v] n1) :: rest) ⟨vF ++ [Value.ref l'], n2, (l', tupOf [.int (ns.getD i 0) t1, .int (rowLast ns i) t2, v] n1) :: rest, m1, m2, rfl, ?_, ?_, List.forall_mem_cons.mpr ⟨Nat.ne_of_gt l71, q1⟩⟩ ?_ ?_ ?_
  · rw [List.length_append, i1]; rfl
  · intro k hk
    by_cases e : k = i
    · subst e
      exact ⟨l', t1, t2, n1, v, hx, by rw [← i1]; simp, .head _⟩
    · obtain ⟨p, u1, u2, n, v', e1, e2, e3⟩ := i2 k (by omega)
      exact ⟨p, u1, u2, n, v', e1, by rw [List.getElem?_append_left (by omega)]; exact e2, .tail _ e3⟩
  · exact OwnOff.cons (OwnOff.ne hoff (.head _)) (OwnOff.cons (fun p hp => l75 p (List.mem_append_right _ hp)) (OwnOff.sub hoff (fun q hq => .tail _ hq)))
  · intro p hp
    rcases List.mem_cons.mp hp with rfl | hp
    · exact .tail _ (.head _)
    rcases List.mem_cons.mp hp with rfl | hp
    · exact .head _
    · exact .tail _ (.tail _ (List.mem_append_left _ hp))
  · exact fun p hp => .tail _ (.tail _ (List.mem_append_right _ hp))
theorem rows_call {w : World} {A : Around} {s : Shared} {Q E : Value → Shared → Prop} {r x st vl : Addr} {ns : List Int} {vs : List Value} {dflt : Value}
    (H : Here w A s.heap) (R : Room A 1) (D : RAt s.heap r ns vs dflt x st vl) (hlen : ns.length = vs.length) (hsm : ns.length < 1000)
    (ret : ∀ (l : Addr) (vF : List Value) (n : Nat) (h' : Heap) (tk' : Nat), Kp s.heap h' → s.heap.get? l = none → h'.get? l = some (listOf vF.toArray n) → vF.length = vs.length → (rest : List (Addr × Obj)) → (∀ q ∈ rest, s.heap.get? q.1 = none ∧ h'.get? q.1 = some q.2) → (∀ k, k < vs.length → ∃ p t1 t2 n v, vs[k]? = some v ∧ vF[k]? = some (.ref p) ∧ (p, tupOf [.int (ns.getD k 0) t1, .int (rowLast ns k) t2, v] n) ∈ rest) → Q (.ref l) { s with heap := h', toks := tk' }) :
    wpAny (model PR w) A (call (.ref 289) [.ref r]) Q E s := by
  obtain ⟨d1, ⟨a1, a2, a3, t1, t2, t3, n, d2⟩, ⟨sv, n1, d3, d4⟩, ⟨n2, d5⟩⟩ := D
  have l1 := isListOf d3
  have l2 := isListOf d5
  refine wpAny_call ?_
  k_dflt (refine' enterP ?enH14 ?enR14 ?en614 ?en714 ?en914 ?enB14 ?_ ?ec214 ?ec314 ?ec414 ?ec514; (case enH14 => assumption); (case enR14 => assumption); (case en614 => k_is); (case en714 => k_is); (case en914 => first | exact BindsTo.of_eq rfl | exact binds_K (by assumption) rfl (by k_is) rfl rfl rfl); (case ec514 => decide); (case enB14 => exact locs rfl); (case ec214 => exact rfl); (case ec314 => exact rfl); (case ec414 => exact rfl); k_whole; intro enq01 enq02 enq03 enq04 enq05 enq06 enq07 enq08 enq09 enq10 enq11 enq12 enq13 enq14 enq15 enq16 enq17 enq18 enq19 enq20 enq21 enq22 enq23 enq24 enq25 enq26 enq27 enq28; (try dsimp only); (try k_fold))
  clear H
  (repeat ((fail_if_success (with_reducible show wpAny _ _ (exec (Stmt.For _ _ _ _ _) _) _ _ _)); walk1))
  ((rename Fr _ _ _ _ => lF'); (with_unfolding_all refine' For_turns lF' ?_; k_whole))
  iterate 8 walk1
  rename News _ _ _ _ => N0
  obtain ⟨fF, hfF⟩ : ∃ fF, fF = News.a1 N0 := ⟨_, rfl⟩
  refine enumB (rowsJ st fF ns vs) rfl l2 (by k_asm) (fun p hp => N0 p (.tail _ hp)) ?hj ?turn ?done
  case hj => subst hfF; exact ⟨[], 0, [], by k_dflt rfl, by k_dflt rfl, rfl, rfl, fun k hk => absurd hk (Nat.not_lt_zero k), fun p hp => absurd hp List.not_mem_nil⟩
  case turn =>
    clear hfF N0
    rintro i v T t m₁ nx h tk own hx hT hoff ⟨vF, nF, rest, m1, m2, rfl, i1, i2, q1⟩ F1 N1
    dsimp only [envOf, List.cons_append, List.nil_append, List.map] at F1 N1 hoff
    k_sweep
    replace F1 := Fr.know (Fr.know F1 (x := Str.ofString "found") (by k_dflt (exact m1))) (x := Str.ofString "starts") (by k_dflt (exact m2))
    have hi9 : i < vs.length := (List.getElem?_eq_some_iff.mp hx).1
    (repeat' (first | (k_unfold; (try dsimp only)) | walk1 | (dsimp only; walk1) | (leave1; (try dsimp only))))
    all_goals (rename Fr _ _ _ _ => F7; rename News _ _ _ _ => N7; rename _ ∧ AllLt _ _ => l7; simp only [List.push_toArray] at N7; refine rows_end F7 N7 l7 (by k_dflt rfl) (by k_dflt rfl) i1 hx ?_ ?_ i2 q1 hoff)
    · rfl
    · rename (i : Int) + 1 < _ => hc; rw [rowLast, if_pos (by omega)]; rfl
    · rfl
    · rename ¬ (i : Int) + 1 < _ => hc; rw [rowLast, if_neg (by omega)]
  case done =>
    clear hfF N0
    rintro m₁ nx h tk ⟨vF, nF, rest, m1, m2, rfl, i1, i2, q1⟩ F1 N1
    dsimp only [envOf] at F1 N1
    k_sweep
    replace F1 := Fr.know F1 (x := Str.ofString "found") m1
    (repeat' (first | (k_unfold; (try dsimp only)) | walk1 | (dsimp only; walk1) | (leave1; (try dsimp only))))
    rename Fr _ _ _ _ => F7
    rename News _ _ _ _ => N7
    exact ret fF vF nF _ _ F7.keep (N7.fresh (.head _)) (N7.get (.head _)) i1 rest (fun q hq => ⟨N7.fresh (.tail _ hq), N7.get (.tail _ hq)⟩) i2

end
local macro_rules | `(tactic| walk_at "zz") => `(tactic| fail)
local macro_rules | `(tactic| walk_at "zz") => `(tactic| fail)
local macro_rules | `(tactic| walk_at "zz") => `(tactic| fail)
section
theorem off_ralc : True := by
  w_top off
  trivial
section
variable {w : World} {A : Around} {s : Shared}
/-- as enterP, for a def with cells -/
theorem enterC {R : Result → Shared → Prop} {name qual : Str} {params : Arguments} {body : List Stmt} {scope : Scope} {dV kV doc pm cdv ct oc : Value} {an od : Option Addr} {osl : Array (Option Value)} {f : Addr} {args : Args} {binds : List (Str × Value)} {n : Nat}
    (H : Here w A s.heap) (r : Room A (n + 1))
    (ho : (hd.heap_1 w.params).lookup f = some ⟨oc, od, .func (fnOf name qual params body scope dV kV doc pm an cdv ct), osl⟩) (hcd : codeIn (hd.heap_1 w.params) cdv qual = true)
    (hbind : BindsTo s (fnOf name qual params body scope dV kV doc pm an cdv ct) args binds) (hkind : (binds.all fun y => scope.names.lookup y.1 == some .local || scope.names.lookup y.1 == some .cell) = true)
    (hnd : ((cellsFrom 0 scope.names []).map (·.1)).Nodup)
    (h : ∀ (dp un : Nat) (gd : Option (List Code)) (cn : Str) (cs : Scope) (L a : Addr) (ccd : Value) (cl : List (Str × Addr)) (outer : List Env) (base : Heap) (mg mb : Str → Option Value) (loose : List Str) (mean : ExcName → Option Value) L' h₁ tk cells,
      Room ((ktrTop dp un gd cn cs L a ccd cl outer).deeper (envOfC qual scope L' f cdv)) n → Fr s.heap L' h₁ (bindL (envOfC qual scope L' f cdv).kindOf binds fun _ => none) → News s.heap L' h₁ cells →
      CellsAre (bindC (envOfC qual scope L' f cdv).kindOf binds fun _ => none) (cellsFrom (L' + 1) scope.names []) cells →
      Below (ktrTop dp un gd cn cs L a ccd cl outer) base (envX cn cs L a ccd cl :: outer) s.heap → (hd.heap_1 w.params).In s.heap → Top topProg loose mean mg mb s.heap →
      wpAny (model PR w) ((ktrTop dp un gd cn cs L a ccd cl outer).deeper (envOfC qual scope L' f cdv)) (execs body (envOfC qual scope L' f cdv))
        (fun fl s' => R (.ok (.ret (match fl with | .ret v => v | _ => .none))) s')
        (fun e s' => wpAny (model PR w) ((ktrTop dp un gd cn cs L a ccd cl outer).deeper (envOfC qual scope L' f cdv)) (leaving (envOfC qual scope L' f cdv) e) (fun _ s'' => R (.error e) s'') (fun e' s'' => R (.error e') s'') s')
        { s with heap := h₁, toks := tk })
    (hco : scope.isCoroutine = false) (hgen : scope.isGenerator = false) (hk : scope.kind = .function) : codeAny (model PR w) A (.call (.ref f) args) R s := by
  obtain ⟨dp, un, gd, cn, cs, L, a, ccd, cl, outer, A₀, base, h₀, m, mg, mb, loose, mean, rfl, hck, B, F, X₀, T⟩ := H
  have B₁ := pushX (env := envX cn cs L a ccd cl) B F rfl hck
  refine codeAny_call_function (fd := fnOf name qual params body scope dV kV doc pm an cdv ct) r.room (F.keep _ _ (X₀ _ _ ho)) rfl hco hgen rfl (codeRec_of (X₀.keeps F.keep) hcd) (hbind _ _ _ _ ?_)
  refine wpAny_newFunctionEnv_cells hk (kindsX hkind _) fun env' he s' x => ?_
  subst he
  refine ⟨(T.nolimit.keeps F.keep).keeps x.toInCall.keep, codeAny_func ?_⟩
  obtain ⟨h₁, tk, rfl, _⟩ := x.done
  have hk₁ := x.toInCall.keep
  obtain ⟨cells, NC, Y⟩ := Cl.news (h₀ := s.heap) (Nat.le_refl _) fun n c hm => ⟨x.cell n c (lookup_of_mem_nodup (cellsFrom_names scope.names 0 (s.heap.objs.size + 1) [] [] rfl ▸ hnd) hm), x.above n c hm⟩
  exact h dp un gd cn cs L a ccd cl outer base mg mb loose mean s.heap.objs.size h₁ tk cells (r.deeper _) ⟨x.toInCall.ns, hk₁, Nat.le_refl _⟩ NC Y ⟨rfl, B₁.stays, B₁.frames⟩ (X₀.keeps F.keep) (T.keeps F.keep)
end

end
section
theorem off_ral : True := by
  w_top off
  trivial
section
variable {w : World} {A : Around} {s : Shared} {Q E : Value → Shared → Prop}
theorem ral_nn (H : Here w A s.heap) (R : Room A 1) (ret : ∀ h' tk', Kp s.heap h' → Q (.bool true) { s with heap := h', toks := tk' }) :
    wpAny (model PR w) A (call (.ref 235) [.none, .none]) Q E s := by
  refine wpAny_call ?_
  k_dflt (refine' enterC ?enH15 ?enR15 ?en615 ?en715 ?en915 ?enB15 ?enD15 ?_ ?ec215 ?ec315 ?ec415; (case enH15 => assumption); (case enR15 => assumption); (case en615 => k_is); (case en715 => k_is); (case en915 => exact BindsTo.of_eq rfl); (case enB15 => exact rfl); (case enD15 => decide +kernel); (case ec215 => exact rfl); (case ec315 => exact rfl); (case ec415 => exact rfl); k_whole; intro enq01 enq02 enq03 enq04 enq05 enq06 enq07 enq08 enq09 enq10 enq11 enq12 enq13 enq14 enq15 enq16 enq17 enq18 enq19 enq20 enq21 enq22 enq23 enq24 enq25 enq26; k_cells enq23; (try simp only [List.cons_append, List.nil_append] at enq22); (try dsimp only); (try k_fold))
  clear H
  (repeat' (first | (k_unfold; (try dsimp only)) | walk1 | (dsimp only; walk1) | (leave1; (try dsimp only))))
  all_goals exact endB (Q := Q) ret rfl (Fr.keep (by with_reducible assumption))
theorem ral_ii {t u : Tok} (H : Here w A s.heap) (R : Room A 1) (ret : ∀ h' tk', Kp s.heap h' → Q (.bool false) { s with heap := h', toks := tk' }) :
    wpAny (model PR w) A (call (.ref 235) [.int 0 t, .int 230 u]) Q E s := by
  refine wpAny_call ?_
  k_dflt (refine' enterC ?enH16 ?enR16 ?en616 ?en716 ?en916 ?enB16 ?enD16 ?_ ?ec216 ?ec316 ?ec416; (case enH16 => assumption); (case enR16 => assumption); (case en616 => k_is); (case en716 => k_is); (case en916 => exact BindsTo.of_eq rfl); (case enB16 => exact rfl); (case enD16 => decide +kernel); (case ec216 => exact rfl); (case ec316 => exact rfl); (case ec416 => exact rfl); k_whole; intro enq01 enq02 enq03 enq04 enq05 enq06 enq07 enq08 enq09 enq10 enq11 enq12 enq13 enq14 enq15 enq16 enq17 enq18 enq19 enq20 enq21 enq22 enq23 enq24 enq25 enq26; k_cells enq23; (try simp only [List.cons_append, List.nil_append] at enq22); (try dsimp only); (try k_fold))
  clear H
  (repeat' (first | (k_unfold; (try dsimp only)) | walk1 | (dsimp only; walk1) | (leave1; (try dsimp only))))
  all_goals exact endB (Q := Q) ret rfl (Fr.keep (by with_reducible assumption))
theorem tupAt {t : Addr} {us : List Value} {n : Nat} {g h : Heap} (ht : g.get? t = some (tupOf us n)) (k : Kp g h) : IsTup h t us.toArray := ⟨_, k _ _ ht, rfl, n, rfl⟩
theorem tupKit {t : Addr} {us : List Value} {n : Nat} {g h : Heap} (ht : g.get? t = some (tupOf us n)) (k : Kp g h) : KitAt t "tuple" h := ⟨_, k _ _ ht, rfl⟩
theorem ral_nt {t : Addr} {us : List Value} {n : Nat} (H : Here w A s.heap) (R : Room A 1) (ht : s.heap.get? t = some (tupOf us n)) (ret : ∀ h' tk', Kp s.heap h' → Q (.bool false) { s with heap := h', toks := tk' }) :
    wpAny (model PR w) A (call (.ref 235) [.none, .ref t]) Q E s := by
  refine wpAny_call ?_
  k_dflt (refine' enterC ?enH17 ?enR17 ?en617 ?en717 ?en917 ?enB17 ?enD17 ?_ ?ec217 ?ec317 ?ec417; (case enH17 => assumption); (case enR17 => assumption); (case en617 => k_is); (case en717 => k_is); (case en917 => exact BindsTo.of_eq rfl); (case enB17 => exact rfl); (case enD17 => decide +kernel); (case ec217 => exact rfl); (case ec317 => exact rfl); (case ec417 => exact rfl); k_whole; intro enq01 enq02 enq03 enq04 enq05 enq06 enq07 enq08 enq09 enq10 enq11 enq12 enq13 enq14 enq15 enq16 enq17 enq18 enq19 enq20 enq21 enq22 enq23 enq24 enq25 enq26; k_cells enq23; (try simp only [List.cons_append, List.nil_append] at enq22); (try dsimp only); (try k_fold))
  clear H
  (repeat' (first | (k_unfold; (try dsimp only)) | ((with_reducible show wpAny _ _ (compareOp .Eq Value.none (Value.ref _)) _ _ _); k_dflt (refine PySem.SeqAt.RcAt.none_tuple (by exact tupAt (by with_reducible assumption) (Fr.keep (by with_reducible assumption))) (by exact Room.units1 (by assumption)) _ _ _ _ ?_)) | ((with_reducible show wpAny _ _ (compareOp .Eq (Value.ref _) Value.none) _ _ _); k_dflt (refine PySem.SeqAt.RcAt.tuple_none (by exact tupAt (by with_reducible assumption) (Fr.keep (by with_reducible assumption))) (by exact Room.units1 (by assumption)) _ _ _ _ ?_)) | ((with_reducible show wpAny _ _ (call _ [Value.ref _, Value.type _]) _ _ _); k_dflt (refine' kia_one kitx_tuple (by k_in) (by exact tupKit (by with_reducible assumption) (Fr.keep (by with_reducible assumption))) (by kit_is) (by kit_nb) ?_); intro _) | walk1 | (dsimp only; walk1) | (leave1; (try dsimp only))))
  all_goals exact endB (Q := Q) ret rfl (Fr.keep (by with_reducible assumption))
theorem ral_tn {t : Addr} {us : List Value} {n : Nat} (H : Here w A s.heap) (R : Room A 1) (ht : s.heap.get? t = some (tupOf us n)) (ret : ∀ h' tk', Kp s.heap h' → Q (.bool false) { s with heap := h', toks := tk' }) :
    wpAny (model PR w) A (call (.ref 235) [.ref t, .none]) Q E s := by
  refine wpAny_call ?_
  k_dflt (refine' enterC ?enH18 ?enR18 ?en618 ?en718 ?en918 ?enB18 ?enD18 ?_ ?ec218 ?ec318 ?ec418; (case enH18 => assumption); (case enR18 => assumption); (case en618 => k_is); (case en718 => k_is); (case en918 => exact BindsTo.of_eq rfl); (case enB18 => exact rfl); (case enD18 => decide +kernel); (case ec218 => exact rfl); (case ec318 => exact rfl); (case ec418 => exact rfl); k_whole; intro enq01 enq02 enq03 enq04 enq05 enq06 enq07 enq08 enq09 enq10 enq11 enq12 enq13 enq14 enq15 enq16 enq17 enq18 enq19 enq20 enq21 enq22 enq23 enq24 enq25 enq26; k_cells enq23; (try simp only [List.cons_append, List.nil_append] at enq22); (try dsimp only); (try k_fold))
  clear H
  (repeat' (first | (k_unfold; (try dsimp only)) | ((with_reducible show wpAny _ _ (compareOp .Eq Value.none (Value.ref _)) _ _ _); k_dflt (refine PySem.SeqAt.RcAt.none_tuple (by exact tupAt (by with_reducible assumption) (Fr.keep (by with_reducible assumption))) (by exact Room.units1 (by assumption)) _ _ _ _ ?_)) | ((with_reducible show wpAny _ _ (compareOp .Eq (Value.ref _) Value.none) _ _ _); k_dflt (refine PySem.SeqAt.RcAt.tuple_none (by exact tupAt (by with_reducible assumption) (Fr.keep (by with_reducible assumption))) (by exact Room.units1 (by assumption)) _ _ _ _ ?_)) | ((with_reducible show wpAny _ _ (call _ [Value.ref _, Value.type _]) _ _ _); k_dflt (refine' kia_one kitx_tuple (by k_in) (by exact tupKit (by with_reducible assumption) (Fr.keep (by with_reducible assumption))) (by kit_is) (by kit_nb) ?_); intro _) | walk1 | (dsimp only; walk1) | (leave1; (try dsimp only))))
  all_goals exact endB (Q := Q) ret rfl (Fr.keep (by with_reducible assumption))
end

end
section
theorem off_ranges : True := by
  w_top off
  trivial
theorem newsAdds {h₀ h h' : Heap} {L : Addr} {m : Str → Option Value} {a : Addr × Obj} {news rest : List (Addr × Obj)} (F : Fr h₀ L h m) (N : News h₀ L h news) (k : Kp h h') (f : ∀ q ∈ a :: rest, h.get? q.1 = none ∧ h'.get? q.1 = some q.2) : News h₀ L h' (a :: (news ++ rest)) := by
  have g : ∀ p ∈ a :: rest, h'.get? p.1 = some p.2 ∧ p.1 ≠ L ∧ h₀.get? p.1 = none := fun p hp => newsAdd F (fun _ h => absurd h List.not_mem_nil) k (f p hp).1 (f p hp).2 p (.head _)
  intro p hp
  rcases List.mem_cons.mp hp with rfl | hp
  · exact g _ (.head _)
  · rcases List.mem_append.mp hp with hp | hp
    · exact ⟨k _ _ (N p hp).1, (N p hp).2⟩
    · exact g p (.tail _ hp)
theorem compT_ind {prog : Program} {w : World} {A : Around} {h₀ : Heap} {L : Addr} {m : Str → Option Value} {env : Env} {ct elt : PySem.Expr} {x : Str} {scope : Scope} {cl : List (Str × Addr)} {s : Shared} {S : List (Addr × Obj) → Prop} {P : Nat → Value → Prop} {Fin : List Value → List (Addr × Obj) → Prop} {news : List (Addr × Obj)} {n : Nat}
    (Inv : Nat → List Value → Prop)
    (step : ∀ i ys, i < n → Inv i ys → ∀ v I oI C oC D m₂ h tk (E' : Value → Shared → Prop), P i v → LCg.NsObj oC m₂ → m₂ x = some v → Fr h₀ L h m → News h₀ L h ((I, oI) :: (C, oC) :: (D, LCg.lst ys) :: news) → LCg.Off3 I C D news → ((@Ne Nat I C) ∧ (@Ne Nat I D) ∧ (@Ne Nat C D)) →
      wpAny (model prog w) A (isTrue ct (compEnvC scope cl C env) (eval ct (compEnvC scope cl C env))) (fun ok s' => if ok = true then
        wpAny (model prog w) A (eval elt (compEnvC scope cl C env)) (LCg.CompEnd h₀ L m { s with heap := h, toks := tk } I oI C oC D (LCg.lst ys) S (fun y news' => news' = news ∧ Inv (i + 1) (ys ++ [y]))) E' s'
        else LCg.CompEnd h₀ L m { s with heap := h, toks := tk } I oI C oC D (LCg.lst ys) S (fun _ news' => news' = news ∧ Inv (i + 1) ys) Value.none s') E' { s with heap := h, toks := tk })
    (fin : ∀ ys, Inv n ys → Fin ys news) : ∀ (k i : Nat) (ys : List Value), i + k = n → Inv i ys → LCt.CompRestT prog w A h₀ L m env ct elt x scope cl s S P Fin k i ys news := by
  intro k
  induction k with
  | zero =>
    intro i ys e hy
    have e' : i = n := by omega
    subst e'
    exact LCt.CompRestT.zero (fin ys hy)
  | succ k ih =>
    intro i ys e hy
    refine LCt.CompRestT.succ fun v I oI C oC D m₂ h tk E' hP hC hx F N off ne => ?_
    refine wpAny_mono (step i ys (by omega) hy v I oI C oC D m₂ h tk E' hP hC hx F N off ne) (fun ok s' hs => ?_) fun _ _ e => e
    cases ok with
    | true =>
      simp only [if_true] at hs ⊢
      refine wpAny_mono hs (fun y s'' hs => ?_) fun _ _ e => e
      obtain ⟨h', tk', news', e1, F', N', off', hS, e2, hi⟩ := hs
      subst e2
      exact ⟨h', tk', _, e1, F', N', off', hS, ih (i + 1) _ (by omega) hi⟩
    | false =>
      simp only [Bool.false_eq_true, if_false] at hs ⊢
      obtain ⟨h', tk', news', e1, F', N', off', hS, e2, hi⟩ := hs
      subst e2
      exact ⟨h', tk', _, e1, F', N', off', hS, ih (i + 1) _ (by omega) hi⟩
/-- the rows that a list holds: these numbers of the map's ranges -/
def RowSel (ns : List Int) (vs : List Value) (rest : List (Addr × Obj)) (ks : List Nat) (ys : List Value) : Prop :=
  ys.length = ks.length ∧ ∀ (j k : Nat), ks[j]? = some k → ∃ (p : Addr) (t1 t2 : Tok) (n : Nat) (v : Value), vs[k]? = some v ∧ ys[j]? = some (Value.ref p) ∧ (p, tupOf [.int (ns.getD k 0) t1, .int (rowLast ns k) t2, v] n) ∈ rest
def isRefV : Option Value → Bool | some (.ref _) => true | _ => false
def selK (vs : List Value) (i : Nat) : List Nat := (List.range i).filter (fun k => isRefV vs[k]?)
theorem selK_none {vs : List Value} {i : Nat} (h : vs[i]? = some .none) : selK vs (i + 1) = selK vs i := by
  unfold selK
  rw [List.range_succ, List.filter_append, List.filter_cons, h]
  simp [isRefV]
theorem selK_ref {vs : List Value} {i : Nat} {t : Addr} (h : vs[i]? = some (.ref t)) : selK vs (i + 1) = selK vs i ++ [i] := by
  unfold selK
  rw [List.range_succ, List.filter_append, List.filter_cons, h]
  simp [isRefV]
theorem rowSel_snoc {ns : List Int} {vs : List Value} {rest : List (Addr × Obj)} {ks : List Nat} {ys : List Value} {i : Nat} {p : Addr} {t1 t2 : Tok} {n : Nat} {v : Value} (h : RowSel ns vs rest ks ys) (hv : vs[i]? = some v) (hp : (p, tupOf [.int (ns.getD i 0) t1, .int (rowLast ns i) t2, v] n) ∈ rest) : RowSel ns vs rest (ks ++ [i]) (ys ++ [Value.ref p]) := by
  obtain ⟨h1, h2⟩ := h
  refine ⟨by rw [List.length_append, List.length_append, h1]; rfl, fun j k hj => ?_⟩
  by_cases e : j < ks.length
  · rw [List.getElem?_append_left e] at hj
    rw [List.getElem?_append_left (by omega)]
    exact h2 j k hj
  · rw [List.getElem?_append_right (by omega)] at hj
    have e1 : j - ks.length = 0 := by
      have := (List.getElem?_eq_some_iff.mp hj).1
      simp at this
      omega
    rw [e1] at hj
    have e2 : i = k := by simpa using hj
    subst e2
    refine ⟨p, t1, t2, n, v, hv, ?_, hp⟩
    rw [List.getElem?_append_right (by omega), show j - ys.length = 0 by omega]
    rfl
theorem ranges_call {w : World} {A : Around} {s : Shared} {Q E : Value → Shared → Prop} {r x st vl : Addr} {ns : List Int} {vs : List Value}
    (H : Here w A s.heap) (R : Room A 2) (D : RAt s.heap r ns vs .none x st vl) (hlen : ns.length = vs.length) (hsm : ns.length < 1000) (hv : ∀ v ∈ vs, v = .none ∨ ∃ t us n, v = .ref t ∧ s.heap.get? t = some (tupOf us n))
    (ret : ∀ (l : Addr) (ys : List Value) (n : Nat) (h' : Heap) (tk' : Nat) (rest : List (Addr × Obj)), Kp s.heap h' → s.heap.get? l = none → h'.get? l = some (listOf ys.toArray n) → (∀ q ∈ rest, s.heap.get? q.1 = none ∧ h'.get? q.1 = some q.2) → RowSel ns vs rest (selK vs vs.length) ys → Q (.ref l) { s with heap := h', toks := tk' }) :
    wpAny (model PR w) A (call (.ref 268) [.ref r]) Q E s := by
  refine wpAny_call ?_
  k_dflt (refine' enterC ?enH19 ?enR19 ?en619 ?en719 ?en919 ?enB19 ?enD19 ?_ ?ec219 ?ec319 ?ec419; (case enH19 => assumption); (case enR19 => assumption); (case en619 => k_is); (case en719 => k_is); (case en919 => exact BindsTo.of_eq rfl); (case enB19 => exact rfl); (case enD19 => decide +kernel); (case ec219 => exact rfl); (case ec319 => exact rfl); (case ec419 => exact rfl); k_whole; intro enq01 enq02 enq03 enq04 enq05 enq06 enq07 enq08 enq09 enq10 enq11 enq12 enq13 enq14 enq15 enq16 enq17 enq18 enq19 enq20 enq21 enq22 enq23 enq24 enq25 enq26; k_cells enq23; (try simp only [List.cons_append, List.nil_append] at enq22); (try dsimp only); (try k_fold))
  clear H
  iterate 2 walk1
  refine LCt.ListComp_T (F₀ := by k_asm) (by with_unfolding_all rfl) (by decide) (by rfl) (by decide) (by rfl) ?_
  (repeat ((fail_if_success (with_reducible show wpAny _ _ (call (Value.ref 289) _) _ _ _)); walk1))
  rename Fr _ _ _ _ => F5
  rename News _ _ _ _ => N5
  refine rows_call (by ktr_rel) (Room.less (by assumption) (by decide)) (D.mono F5.keep) hlen hsm ?_
  intro l9 vF9 n9 h9 tk9 k9 fr9 gl9 len9 rest9 rr9 sel9
  have F6 := F5.keeps k9
  have N6 := newsAdds F5 N5 k9 (a := (l9, listOf vF9.toArray n9)) (rest := rest9) (List.forall_mem_cons.mpr ⟨⟨fr9, gl9⟩, rr9⟩)
  have D6 := D
  obtain ⟨d1, ⟨a1, a2, a3, t1, t2, t3, n, d2⟩, _, _⟩ := D
  clear F5 N5 k9 fr9 gl9 rr9
  simp only [List.cons_append, List.nil_append] at N6
  have hsz : vF9.toArray.size = vs.length := by rw [List.size_toArray, len9]
  refine LCt.CompSrcT.ledger rfl F6 N6 (.head _) (by rw [hsz, sizeLine_eq]; omega) ?_
  intro g9
  refine compT_ind (fun i ys => RowSel ns vs rest9 (selK vs i) ys) ?step ?fin _ 0 [] (Nat.zero_add _) ⟨rfl, fun j k hj => by simp [selK] at hj⟩
  case step =>
    rintro i ys hi hr v I oI C oC D' m₂ h tk E' hP hC hx F9 N9 off ne
    clear F6 N6
    obtain ⟨p, u1, u2, n5, v5, e1, e2, e3⟩ := sel9 i (by omega)
    have e4 : v = .ref p := by
      have e5 : vF9[i]? = some v := by simpa using hP
      rw [e2] at e5
      exact (Option.some.inj e5).symm
    subst e4
    have hm9 := News.isTup N9 (.tail _ (.tail _ (.tail _ (.tail _ (.tail _ e3)))))
    rcases hv v5 (List.mem_of_getElem? e1) with rfl | ⟨t5, us5, n6, rfl, g5⟩
    · (repeat' (first | (k_unfold; (try dsimp only)) | ((with_reducible show wpAny _ _ (subscriptTail _ _ (Value.ref _) (Value.int _ _)) _ _ _); k_dflt (refine' item_tupleT (by with_reducible assumption) (by decide) (by decide) (by rfl) (by rfl) ?_)) | ((with_reducible show wpAny _ _ (call (Value.ref 235) [Value.none, Value.none]) _ _ _); k_dflt (refine' ral_nn (by ktr_rel) (by ktr_room) ?_); intro h9 tk9; tb_start) | ((with_reducible show wpAny _ _ (call (Value.ref 235) [Value.ref _, Value.none]) _ _ _); k_dflt (refine' ral_tn (by ktr_rel) (by ktr_room) (by exact Fr.keep (by with_reducible assumption) _ _ (by with_reducible assumption)) ?_); intro h9 tk9; tb_start) | walk1 | (dsimp only; walk1) | (leave1; (try dsimp only))))
      rename Fr _ _ _ _ => F7
      rename News _ _ _ _ => N7
      exact LCg.CompEnd.intro F7 N7 _ (fun p hp => hp) off (.inr ⟨_, .head _, rfl, _, rfl⟩) ⟨rfl, by rw [selK_none e1]; exact hr⟩
    · (repeat' (first | (k_unfold; (try dsimp only)) | ((with_reducible show wpAny _ _ (subscriptTail _ _ (Value.ref _) (Value.int _ _)) _ _ _); k_dflt (refine' item_tupleT (by with_reducible assumption) (by decide) (by decide) (by rfl) (by rfl) ?_)) | ((with_reducible show wpAny _ _ (call (Value.ref 235) [Value.none, Value.none]) _ _ _); k_dflt (refine' ral_nn (by ktr_rel) (by ktr_room) ?_); intro h9 tk9; tb_start) | ((with_reducible show wpAny _ _ (call (Value.ref 235) [Value.ref _, Value.none]) _ _ _); k_dflt (refine' ral_tn (by ktr_rel) (by ktr_room) (by exact Fr.keep (by with_reducible assumption) _ _ (by with_reducible assumption)) ?_); intro h9 tk9; tb_start) | walk1 | (dsimp only; walk1) | (leave1; (try dsimp only))))
      rename Fr _ _ _ _ => F7
      rename News _ _ _ _ => N7
      exact LCg.CompEnd.intro F7 N7 _ (fun p hp => hp) off (.inr ⟨_, .head _, rfl, _, rfl⟩) ⟨rfl, by rw [selK_ref e1]; exact rowSel_snoc hr e1 e3⟩
  case fin =>
    intro ys hr
    unfold LCg.FinE
    intro D' h4 tk4 F4 N4 o4
    rw [hsz] at hr
    exact ret D' ys _ h4 _ rest9 F4.keep (N4.fresh (.head _)) (N4.get (.head _)) (fun q hq => ⟨N4.fresh (.tail _ (.tail _ (.tail _ hq))), N4.get (.tail _ (.tail _ (.tail _ hq)))⟩) hr

end
section
theorem off_tupd : True := by
  w_top off
  trivial
section
variable {prog : Program} {w : World} {A : Around} {E : Value → Shared → Prop} {s : Shared}
/-- the object is a dict keyed by tuples of ints, with these keys at these places -/
def ODict (prog : Program) (w : World) (o : Obj) (xs : List (List Int × Addr × Value)) : Prop := ∃ es ep, o.ExactDict ∧ o.data = .dict es ep ∧ es.toList = xs.map (entryOfKey (tupleKind (intKind prog w))) ∧ (xs.map (·.1)).Nodup
def KeysIn (prog : Program) (w : World) (h : Heap) (xs : List (List Int × Addr × Value)) : Prop := ∀ x ∈ xs, IsTupleKey (intKind prog w) h x.1 x.2.1
theorem keyKeep {h h' : Heap} {ks : List Int} {a : Addr} (x : IsTupleKey (intKind prog w) h ks a) (k : Kp h h') : IsTupleKey (intKind prog w) h' ks a := let ⟨o, i, n, e, r⟩ := x; ⟨o, i, n, k _ _ e, r⟩
theorem KeysIn.mono {h h' : Heap} {xs : List (List Int × Addr × Value)} (x : KeysIn prog w h xs) (k : Kp h h') : KeysIn prog w h' xs := fun y hy => keyKeep (x y hy) k
theorem ODict.nil {o : Obj} (hd : o.IsDictOf (intKind prog w) []) : ODict prog w o [] := by
  obtain ⟨es, ep, hc, hdat, _, hp, _⟩ := hd
  exact ⟨es, ep, hc, hdat, List.length_eq_zero_iff.mp hp.length, List.nodup_nil⟩
theorem ODict.at {o : Obj} {h : Heap} {d : Addr} {xs : List (List Int × Addr × Value)} (O : ODict prog w o xs) (e : h.get? d = some o) (hk : KeysIn prog w h xs) : h.DictOfH (tupleKind (intKind prog w)) d xs :=
  let ⟨es, ep, a, b, c, n⟩ := O; ⟨o, es, ep, e, a, b, c, hk, n⟩
theorem tup_notin {h₀ : Heap} {L d a : Addr} {m : Str → Option Value} {news : List (Addr × Obj)} {o : Obj} {xs : List (List Int × Addr × Value)} {k : List Int} {Q : Value → Shared → Prop} (F : Fr h₀ L s.heap m) (N : News h₀ L s.heap news) (hm : (d, o) ∈ news) (O : ODict prog w o xs) (lo : (d == sysModules) = false)
    (hk : KeysIn prog w h₀ xs) (key : IsTupleKey (intKind prog w) h₀ k a) (hu : A.units + 1 < cLine) (b : Bool) (hb : (atKey xs k).isSome = b) (h : ∀ tk, Q (.bool (!b)) { s with toks := tk }) : wpAny (model prog w) A (compareOp .NotIn (.ref a) (.ref d)) Q E s := by
  refine wpAny_notIn_heap (tupleKind_room_in1 hu) (keyKeep key F.keep) lo (O.at (N.get hm) (hk.mono F.keep)) ?_
  rw [hb]
  exact h _
theorem tup_set {h₀ : Heap} {L d a : Addr} {m : Str → Option Value} {news : List (Addr × Obj)} {g : Obj → List (Addr × Obj)} {o : Obj} {xs : List (List Int × Addr × Value)} {k : List Int} {v : Value} {Q : Unit → Shared → Prop} (F : Fr h₀ L s.heap m) (N : News h₀ L s.heap news) (U : UpdF d o news g) (O : ODict prog w o xs)
    (hk : KeysIn prog w h₀ xs) (key : IsTupleKey (intKind prog w) h₀ k a) (hu : A.units + 1 < cLine) (hnew : atKey xs k = none) (hsz : xs.length < 1000)
    (h : ∀ h' o' tk, Fr h₀ L h' m → News h₀ L h' (g o') → ODict prog w o' (xs ++ [(k, a, v)]) → KeysIn prog w h₀ (xs ++ [(k, a, v)]) → Q () { s with heap := h', toks := tk }) : wpAny (model prog w) A (setItem (.ref d) (.ref a) v) Q E s := by
  obtain ⟨pre, post, rfl, hg, u1, u2⟩ := U.split
  have z := N (d, o) (List.mem_append.mpr (.inr (.head _)))
  refine wpAny_setItem_heap (hsz := by rw [sizeLine_eq]; omega) (tupleKind_room_in1 hu) (keyKeep key F.keep) (O.at z.1 (hk.mono F.keep)) fun h' hm' hs => ?_
  obtain ⟨o', es', ep', ho', hc', hd', he', hk', hn'⟩ := hm'
  rw [storedH_new hnew] at he' hk' hn'
  refine h h' o' _ (F.change hs z.2.1 z.2.2) ?_ ⟨es', ep', hc', hd', he', hn'⟩ (fun x hx => ?_)
  · rw [hg]; exact news_set N u1 u2 hs ho'
  · rcases List.mem_append.mp hx with hx | hx
    · exact hk x hx
    · rw [List.mem_singleton.mp hx]; exact key
end
theorem key342 {w : World} {g : Heap} (X : (hd.heap_1 w.params).In g) : IsTupleKey (intKind PR w) g [69, 769] 342 := by
  obtain ⟨o, e, c, n, d⟩ := tupK X (a := 342) (by k_is)
  exact ⟨o, _, n, e, c, d, .cons (intKind_is _ _ _ _) (.cons (intKind_is _ _ _ _) .nil)⟩
theorem key341 {w : World} {g : Heap} (X : (hd.heap_1 w.params).In g) : IsTupleKey (intKind PR w) g [101, 769] 341 := by
  obtain ⟨o, e, c, n, d⟩ := tupK X (a := 341) (by k_is)
  exact ⟨o, _, n, e, c, d, .cons (intKind_is _ _ _ _) (.cons (intKind_is _ _ _ _) .nil)⟩
theorem newOff {g h : Heap} {L D : Addr} : ∀ {news : List (Addr × Obj)}, News g L h news → h.get? D = none → LCg.Off1 D news
  | [], _, _ => trivial
  | p :: r, N, f => by
    refine ⟨fun e => ?_, newOff (fun q hq => N q (.tail _ hq)) f⟩
    have := (N p (.head _)).1
    rw [show p.1 = D from e, f] at this
    cases this

end
section
theorem off_prim : True := by
  w_top off
  trivial
section
variable {w : World} {A : Around} {s : Shared} {Q E : Value → Shared → Prop} {d : Addr} {a : DP} {t : Tok}
theorem isprim201 {x : Int} (hx : x = 201) (H : Here w A s.heap) (R : Room A 5) (D : DAt w s.heap d a) (ret : ∀ h' tk', Kp s.heap h' → Q (.bool true) { s with heap := h', toks := tk' }) :
    wpAny (model PR w) A (call (.ref 137) [.int x t, .ref 342, .ref d]) Q E s := by
  subst hx
  refine wpAny_call ?_
  k_dflt (refine' enterP ?enH20 ?enR20 ?en620 ?en720 ?en920 ?enB20 ?_ ?ec220 ?ec320 ?ec420 ?ec520; (case enH20 => assumption); (case enR20 => assumption); (case en620 => k_is); (case en720 => k_is); (case en920 => first | exact BindsTo.of_eq rfl | exact binds_K (by assumption) rfl (by k_is) rfl rfl rfl); (case ec520 => decide); (case enB20 => exact locs rfl); (case ec220 => exact rfl); (case ec320 => exact rfl); (case ec420 => exact rfl); k_whole; intro enq01 enq02 enq03 enq04 enq05 enq06 enq07 enq08 enq09 enq10 enq11 enq12 enq13 enq14 enq15 enq16 enq17 enq18 enq19 enq20 enq21 enq22 enq23 enq24 enq25 enq26 enq27 enq28; (try dsimp only); (try k_fold))
  clear H
  k_with "codes" => decide
  (repeat' (first | (k_unfold; (try dsimp only)) | ((with_reducible show wpAny _ _ (call (Value.ref 324) [_, Value.str (Str.ofString "ex") _, _]) _ _ _); k_dflt (refine' dget_ex (by ktr_rel) (by ktr_room) (by exact DAt.mono (by with_reducible assumption) (Fr.keep (by with_reducible assumption))) ?_); intro h9 tk9; tb_start) | walk1 | (dsimp only; walk1) | (leave1; (try dsimp only))))
  all_goals exact endB (Q := Q) ret rfl (Fr.keep (by with_reducible assumption))
theorem isprim233 {x : Int} (hx : x = 233) (H : Here w A s.heap) (R : Room A 5) (D : DAt w s.heap d a) (ret : ∀ h' tk', Kp s.heap h' → Q (.bool true) { s with heap := h', toks := tk' }) :
    wpAny (model PR w) A (call (.ref 137) [.int x t, .ref 341, .ref d]) Q E s := by
  subst hx
  refine wpAny_call ?_
  k_dflt (refine' enterP ?enH21 ?enR21 ?en621 ?en721 ?en921 ?enB21 ?_ ?ec221 ?ec321 ?ec421 ?ec521; (case enH21 => assumption); (case enR21 => assumption); (case en621 => k_is); (case en721 => k_is); (case en921 => first | exact BindsTo.of_eq rfl | exact binds_K (by assumption) rfl (by k_is) rfl rfl rfl); (case ec521 => decide); (case enB21 => exact locs rfl); (case ec221 => exact rfl); (case ec321 => exact rfl); (case ec421 => exact rfl); k_whole; intro enq01 enq02 enq03 enq04 enq05 enq06 enq07 enq08 enq09 enq10 enq11 enq12 enq13 enq14 enq15 enq16 enq17 enq18 enq19 enq20 enq21 enq22 enq23 enq24 enq25 enq26 enq27 enq28; (try dsimp only); (try k_fold))
  clear H
  k_with "codes" => decide
  (repeat' (first | (k_unfold; (try dsimp only)) | ((with_reducible show wpAny _ _ (call (Value.ref 324) [_, Value.str (Str.ofString "ex") _, _]) _ _ _); k_dflt (refine' dget_ex (by ktr_rel) (by ktr_room) (by exact DAt.mono (by with_reducible assumption) (Fr.keep (by with_reducible assumption))) ?_); intro h9 tk9; tb_start) | walk1 | (dsimp only; walk1) | (leave1; (try dsimp only))))
  all_goals exact endB (Q := Q) ret rfl (Fr.keep (by with_reducible assumption))
theorem hd_notin {prog : Program} {w : World} {K : Type} [DecidableEq K] {knd : KeyKind prog w K} {A : Around} {E : Value → Shared → Prop} {s : Shared} {d : Addr} {kvs : List (K × Value)} {k : K} {key : Value} {Q : Value → Shared → Prop} (D : s.heap.DictOf knd d kvs) (lo : (d == sysModules) = false) (hkey : knd.is k key = true) (b : Bool) (hb : (valueAt kvs k).isSome = b) (h : Q (.bool (!b)) { s with toks := s.toks + 1 }) :
    wpAny (model prog w) A (compareOp .NotIn key (.ref d)) Q E s := wpAny_notIn_of hkey lo D.mapOf (by rw [hb]; exact h)
theorem mapof_call {r : Addr} {name : Str} {u : Tok} (H : Here w A s.heap) (R : Room A 2) (D : DAt w s.heap d a) (hm : valueAt (mapsOf a) name = some (.ref r)) (ret : ∀ h' tk', Kp s.heap h' → Q (.ref r) { s with heap := h', toks := tk' }) :
    wpAny (model PR w) A (call (.ref 331) [.ref d, .str name u]) Q E s := by
  have hin : (valueAt (mapsOf a) name).isSome = true := by rw [hm]; rfl
  obtain ⟨i1, ⟨a1, a2, a3, a4, t1, t2, t3, t4, p, q, n, i2⟩, _, _, i3, i4, _⟩ := D
  refine wpAny_call ?_
  k_dflt (refine' enterP ?enH22 ?enR22 ?en622 ?en722 ?en922 ?enB22 ?_ ?ec222 ?ec322 ?ec422 ?ec522; (case enH22 => assumption); (case enR22 => assumption); (case en622 => k_is); (case en722 => k_is); (case en922 => first | exact BindsTo.of_eq rfl | exact binds_K (by assumption) rfl (by k_is) rfl rfl rfl); (case ec522 => decide); (case enB22 => exact locs rfl); (case ec222 => exact rfl); (case ec322 => exact rfl); (case ec422 => exact rfl); k_whole; intro enq01 enq02 enq03 enq04 enq05 enq06 enq07 enq08 enq09 enq10 enq11 enq12 enq13 enq14 enq15 enq16 enq17 enq18 enq19 enq20 enq21 enq22 enq23 enq24 enq25 enq26 enq27 enq28; (try dsimp only); (try k_fold))
  clear H
  k_with "in" => exact hin
  k_with "val" => exact hm
  (repeat' (first | (k_unfold; (try dsimp only)) | ((with_reducible show wpAny _ _ (compareOp .NotIn (Value.str _ _) (Value.ref _)) _ _ _); k_dflt (refine' hd_notin (by exact dictKeep (by with_reducible assumption) (Fr.keep (by with_reducible assumption))) (by assumption) (strKind_is _ _ _ _) true (by k_extra "in") ?_)) | ((with_reducible show wpAny _ _ (subscriptTail _ _ (Value.ref _) (Value.str _ _)) _ _ _); k_dflt (refine' hd_item (knd := PySem.strKind PR _) (by exact dictKeep (by with_reducible assumption) (Fr.keep (by with_reducible assumption))) (strKind_is _ _ _ _) (by k_extra "val") ?_)) | walk1 | (dsimp only; walk1) | (leave1; (try dsimp only))))
  all_goals exact endV (Q := Q) ret (Fr.keep (by with_reducible assumption))
end

theorem dat_mapof {w : World} {A : Around} {E : Value → Shared → Prop} {s : Shared} {h₀ : Heap} {L d : Addr} {m : Str → Option Value} {a : DP} {pl : Sem Bool} {Q : Value × List Value → Shared → Prop}
    (F : Fr h₀ L s.heap m) (X : (hd.heap_1 w.params).In h₀) (D : DAt w h₀ d a) (h : Q (.ref 331, [.ref d]) s) : wpAny (model PR w) A (getMethod (.ref d) "map_of" pl) Q E s := by
  obtain ⟨i1, ⟨a1, a2, a3, a4, t1, t2, t3, t4, p, q, n, i2⟩, _⟩ := D
  k_dflt (refine' method_inst F X (instBase F i1 i2) ?k4 ?k5 ?k6 ?k7 h; (case k4 => k_is); (case k5 => k_is); (case k6 => k_is); (case k7 => k_get))
theorem rmap_ranges {w : World} {A : Around} {E : Value → Shared → Prop} {s : Shared} {h₀ : Heap} {L r x st vl : Addr} {ns : List Int} {vs : List Value} {dflt : Value} {m : Str → Option Value} {pl : Sem Bool} {Q : Value × List Value → Shared → Prop}
    (F : Fr h₀ L s.heap m) (X : (hd.heap_1 w.params).In h₀) (D : RAt h₀ r ns vs dflt x st vl) (h : Q (.ref 268, [.ref r]) s) : wpAny (model PR w) A (getMethod (.ref r) "ranges" pl) Q E s := by
  obtain ⟨i1, ⟨a1, a2, a3, t1, t2, t3, n, i2⟩, _⟩ := D
  k_dflt (refine' method_inst F X (instBase F i1 i2) ?k4 ?k5 ?k6 ?k7 h; (case k4 => k_is); (case k5 => k_is); (case k6 => k_is); (case k7 => k_get))
/-- the dict of pairs -/
abbrev pairsOf (t u : Tok) : List (List Int × Addr × Value) := [([69, 769], 342, .int 201 t), ([101, 769], 341, .int 233 u)]
theorem list5 {α : Type} {ys : List α} {a b c d e : α} (h : ys.length = 5) (h0 : ys[0]? = some a) (h1 : ys[1]? = some b) (h2 : ys[2]? = some c) (h3 : ys[3]? = some d) (h4 : ys[4]? = some e) : ys = [a, b, c, d, e] := by
  match ys, h with
  | [x0, x1, x2, x3, x4], _ => simp at h0 h1 h2 h3 h4; subst h0 h1 h2 h3 h4; rfl
abbrev rowO (c : Int) (t1 t2 : Tok) (v : Value) (n : Nat) : Obj := tupOf [.int c t1, .int c t2, v] n
theorem sel5 {a : DP} {rest : List (Addr × Obj)} {ys : List Value} (h : RowSel nsD (vsD a) rest (selK (vsD a) 11) ys) :
    ∃ p1 p2 p3 p4 p5 t1 t2 t3 t4 t5 u1 u2 u3 u4 u5 n1 n2 n3 n4 n5, ys = [.ref p1, .ref p2, .ref p3, .ref p4, .ref p5] ∧
      (p1, rowO 201 t1 u1 (.ref a.t1) n1) ∈ rest ∧ (p2, rowO 233 t2 u2 (.ref a.t2) n2) ∈ rest ∧ (p3, rowO 8544 t3 u3 (.ref a.t3) n3) ∈ rest ∧ (p4, rowO 8560 t4 u4 (.ref a.t4) n4) ∈ rest ∧ (p5, rowO 64257 t5 u5 (.ref a.t5) n5) ∈ rest := by
  obtain ⟨hl, hk⟩ := h
  have e : selK (vsD a) 11 = [1, 3, 5, 7, 9] := rfl
  rw [e] at hl hk
  obtain ⟨p1, t1, u1, n1, v1, e1, f1, g1⟩ := hk 0 1 rfl
  obtain ⟨p2, t2, u2, n2, v2, e2, f2, g2⟩ := hk 1 3 rfl
  obtain ⟨p3, t3, u3, n3, v3, e3, f3, g3⟩ := hk 2 5 rfl
  obtain ⟨p4, t4, u4, n4, v4, e4, f4, g4⟩ := hk 3 7 rfl
  obtain ⟨p5, t5, u5, n5, v5, e5, f5, g5⟩ := hk 4 9 rfl
  have i1 : v1 = .ref a.t1 := (Option.some.inj e1).symm
  have i2 : v2 = .ref a.t2 := (Option.some.inj e2).symm
  have i3 : v3 = .ref a.t3 := (Option.some.inj e3).symm
  have i4 : v4 = .ref a.t4 := (Option.some.inj e4).symm
  have i5 : v5 = .ref a.t5 := (Option.some.inj e5).symm
  subst i1 i2 i3 i4 i5
  exact ⟨p1, p2, p3, p4, p5, t1, t2, t3, t4, t5, u1, u2, u3, u4, u5, n1, n2, n3, n4, n5, list5 hl f1 f2 f3 f4 f5, g1, g2, g3, g4, g5⟩
theorem vsD_tup {w : World} {h : Heap} {d : Addr} {a : DP} (D : DAt w h d a) : ∀ v ∈ vsD a, v = .none ∨ ∃ t us n, v = .ref t ∧ h.get? t = some (tupOf us n) := by
  obtain ⟨u1, n1, e1⟩ := D.t1
  obtain ⟨u2, n2, e2⟩ := D.t2
  obtain ⟨u3, n3, e3⟩ := D.t3
  obtain ⟨u4, n4, e4⟩ := D.t4
  obtain ⟨u5, n5, e5⟩ := D.t5
  intro v hv
  simp only [vsD, List.mem_cons, List.not_mem_nil, or_false] at hv
  rcases hv with rfl | rfl | rfl | rfl | rfl | rfl | rfl | rfl | rfl | rfl | rfl
  · exact .inl rfl
  · exact .inr ⟨_, _, _, rfl, e1⟩
  · exact .inl rfl
  · exact .inr ⟨_, _, _, rfl, e2⟩
  · exact .inl rfl
  · exact .inr ⟨_, _, _, rfl, e3⟩
  · exact .inl rfl
  · exact .inr ⟨_, _, _, rfl, e4⟩
  · exact .inl rfl
  · exact .inr ⟨_, _, _, rfl, e5⟩
  · exact .inl rfl
theorem prim_call {w : World} {A : Around} {s : Shared} {Q E : Value → Shared → Prop} {d : Addr} {a : DP} (H : Here w A s.heap) (R : Room A 6) (D : DAt w s.heap d a)
    (ret : ∀ (D : Addr) (h' : Heap) (tk' : Nat) (t u : Tok), Kp s.heap h' → s.heap.get? D = none → h'.DictOfH (tupleKind (intKind PR w)) D (pairsOf t u) → (D == sysModules) = false → Q (.ref D) { s with heap := h', toks := tk' }) :
    wpAny (model PR w) A (call (.ref 130) [.ref d]) Q E s := by
  refine wpAny_call ?_
  k_dflt (refine' enterP ?enH23 ?enR23 ?en623 ?en723 ?en923 ?enB23 ?_ ?ec223 ?ec323 ?ec423 ?ec523; (case enH23 => assumption); (case enR23 => assumption); (case en623 => k_is); (case en723 => k_is); (case en923 => first | exact BindsTo.of_eq rfl | exact binds_K (by assumption) rfl (by k_is) rfl rfl rfl); (case ec523 => decide); (case enB23 => exact locs rfl); (case ec223 => exact rfl); (case ec323 => exact rfl); (case ec423 => exact rfl); k_whole; intro enq01 enq02 enq03 enq04 enq05 enq06 enq07 enq08 enq09 enq10 enq11 enq12 enq13 enq14 enq15 enq16 enq17 enq18 enq19 enq20 enq21 enq22 enq23 enq24 enq25 enq26 enq27 enq28; (try dsimp only); (try k_fold))
  clear H
  have Dm := D.dm
  obtain ⟨q1, m1, e1⟩ := D.t1
  obtain ⟨q2, m2, e2⟩ := D.t2
  obtain ⟨q3, m3, e3⟩ := D.t3
  obtain ⟨q4, m4, e4⟩ := D.t4
  obtain ⟨q5, m5, e5⟩ := D.t5
  have K1 := key342 (w := w) (by assumption)
  have K2 := key341 (w := w) (by assumption)
  (repeat ((fail_if_success (with_reducible show wpAny _ _ (exec (Stmt.For _ _ _ _ _) _) _ _ _)); walk1))
  ((rename Fr _ _ _ _ => lF'); (with_unfolding_all refine' For_turns lF' ?_; k_whole))
  (repeat ((fail_if_success (with_reducible show wpAny _ _ (call (Value.ref 268) _) _ _ _)); (first | (k_unfold; (try dsimp only)) | ((with_reducible show wpAny _ _ (getMethod (Value.ref _) (Str.ofString "map_of") _) _ _ _); k_dflt (refine' dat_mapof (by with_reducible assumption) (by with_reducible assumption) (by with_reducible assumption) ?_)) | ((with_reducible show wpAny _ _ (call (Value.ref 331) _) _ _ _); k_dflt (refine' mapof_call (by ktr_rel) (by ktr_room) (by exact DAt.mono (by with_reducible assumption) (Fr.keep (by with_reducible assumption))) (by rfl) ?_); intro h9 tk9; tb_start) | ((with_reducible show wpAny _ _ (getMethod (Value.ref _) (Str.ofString "ranges") _) _ _ _); k_dflt (refine' rmap_ranges (by with_reducible assumption) (by with_reducible assumption) (by with_reducible assumption) ?_)) | walk1)))
  (show wpAny _ _ (call (.ref 268) [.ref a.r2]) _ _ _)
  rename Fr _ _ _ _ => F5
  rename News _ _ _ _ => N5
  refine ranges_call (by ktr_rel) (Room.less (by assumption) (by decide)) (Dm.mono F5.keep) rfl (by decide) (vsD_tup (D.mono F5.keep)) ?_
  intro l9 ys9 n9 h9 tk9 rest9 k9 fr9 gl9 rr9 sel9
  obtain ⟨p1, p2, p3, p4, p5, t1, t2, t3, t4, t5, u1, u2, u3, u4, u5, n1, n2, n3, n4, n5, rfl, g1, g2, g3, g4, g5⟩ := sel5 sel9
  have hne := fun q (hq : q ∈ rest9) => off_new (cx := rest9) (fun q hq => (rr9 q hq).1) N5 (.head _) q hq
  have b1 : @Ne Nat p1 _ := hne _ g1
  have b2 : @Ne Nat p2 _ := hne _ g2
  have b3 : @Ne Nat p3 _ := hne _ g3
  have b4 : @Ne Nat p4 _ := hne _ g4
  have b5 : @Ne Nat p5 _ := hne _ g5
  have b6 : @Ne Nat l9 _ := off_new (cx := [(l9, listOf #[] 0)]) (fun q hq => by rw [List.mem_singleton.mp hq]; exact fr9) N5 (.head _) _ (.head _)
  have F6 := F5.keeps k9
  have N6 := newsAdds F5 N5 k9 (a := (l9, listOf _ n9)) (rest := [(p1, rowO 201 t1 u1 (.ref a.t1) n1), (p2, rowO 233 t2 u2 (.ref a.t2) n2), (p3, rowO 8544 t3 u3 (.ref a.t3) n3), (p4, rowO 8560 t4 u4 (.ref a.t4) n4), (p5, rowO 64257 t5 u5 (.ref a.t5) n5)])
    (List.forall_mem_cons.mpr ⟨⟨fr9, gl9⟩, List.forall_mem_cons.mpr ⟨rr9 _ g1, List.forall_mem_cons.mpr ⟨rr9 _ g2, List.forall_mem_cons.mpr ⟨rr9 _ g3, List.forall_mem_cons.mpr ⟨rr9 _ g4, List.forall_mem_cons.mpr ⟨rr9 _ g5, List.forall_mem_nil _⟩⟩⟩⟩⟩⟩)
  simp only [List.cons_append, List.nil_append] at N6
  clear F5 N5 k9 hne g1 g2 g3 g4 g5 gl9 rr9 sel9 fr9
  rename Obj.IsDictOf (intKind _ _) _ _ => hi9
  have O0 := ODict.nil hi9
  have KI : KeysIn PR w s.heap [] := fun x hx => absurd hx List.not_mem_nil
  clear hi9
  (repeat' (first | (k_unfold; (try dsimp only)) | ((with_reducible show wpAny _ _ (compareOp .NotIn (Value.ref _) (Value.ref _)) _ _ _); k_dflt (refine' tup_notin (by k_asm) (by k_asm) (by k_mem) (by with_reducible assumption) (by assumption) (by with_reducible assumption) (by with_reducible assumption) (by exact Room.units2 (by assumption)) false (by rfl) ?_); intro tk') | ((with_reducible show wpAny _ _ (setItem (Value.ref _) (Value.ref _) (Value.int _ _)) _ _ _); k_dflt (refine' tup_set (by k_asm) (by k_asm) (by k_updF) (by with_reducible assumption) (by with_reducible assumption) (by with_reducible assumption) (by exact Room.units2 (by assumption)) (by rfl) (by exact Nat.le_of_ble_eq_true (by rfl)) ?_); intro h' o' tk' F' N' O' K'; (try dsimp only [List.cons_append, List.nil_append] at N' O' K'); k_sweep) | ((with_reducible show wpAny _ _ (call (Value.ref 137) [_, Value.ref 342, _]) _ _ _); k_dflt (refine' isprim201 (by first | rfl | omega) (by ktr_rel) (by ktr_room) (by exact DAt.mono (by with_reducible assumption) (Fr.keep (by with_reducible assumption))) ?_); intro h9 tk9; tb_start) | ((with_reducible show wpAny _ _ (call (Value.ref 137) [_, Value.ref 341, _]) _ _ _); k_dflt (refine' isprim233 (by first | rfl | omega) (by ktr_rel) (by ktr_room) (by exact DAt.mono (by with_reducible assumption) (Fr.keep (by with_reducible assumption))) ?_); intro h9 tk9; tb_start) | walk1 | (dsimp only; walk1) | (leave1; (try dsimp only))))
  rename Fr _ _ _ _ => F7
  rename News _ _ _ _ => N7
  rename ODict _ _ _ _ => O7
  rename KeysIn _ _ _ _ => K7
  exact ret _ _ _ _ _ F7.keep (N7.fresh (.tail _ (.head _))) (O7.at (N7.get (.tail _ (.head _))) (K7.mono F7.keep)) (by assumption)

end
section
theorem off_diter : True := by
  w_top off
  trivial
section
variable {prog : Program} {w : World} {A : Around} {E : Value → Shared → Prop} {s : Shared}
/-- a plain dict with these entries -/
def RawD (h : Heap) (d : Addr) (es : Array DictEntry) (ep : Nat) : Prop := ∃ o, h.get? d = some o ∧ o.ExactDict ∧ o.data = .dict es ep
theorem RawD.at {h h' : Heap} {d : Addr} {es : Array DictEntry} {ep : Nat} (x : RawD h d es ep) (k : ∀ o, h.get? d = some o → h'.get? d = some o) : RawD h' d es ep := let ⟨o, e, r⟩ := x; ⟨o, k o e, r⟩
theorem rawd_iter {d : Addr} {es : Array DictEntry} {ep : Nat} {Q : Value → Shared → Prop} (hd : (d == sysModules) = false) (hm : RawD s.heap d es ep)
    (hQ : Q (.ref s.heap.objs.size) { s with heap := s.heap.push { cls := .type "dict_keyiterator", data := .fields #[.ref d, .int 0 0, .int es.size 0, .int ep 0] } }) : wpAny (model prog w) A (pyIter (.ref d)) Q E s := by
  obtain ⟨o, ho, hc, hdat⟩ := id hm
  have hT : s.TypeIs (.ref d) "dict" := ⟨o, ho, hc.1⟩
  refine wpAny_pyIter_slot hT F.slot_dict_iter (wpAny_call_entry F.slot_dict_iter hT F.entry_dict_iter ?_ (F.args_dict_iter_1 _))
  unfold Builtin.«dict.__iter__»
  refine wpAny_bind ?_
  unfold Builtin.Dict.dictSlotNone
  refine wpAny_bind (wpAny_notOrdered_dict hT ?_)
  show wpAny _ _ (pure (Value.ref d)) _ _ s
  refine wpAny_pure ?_
  show wpAny _ _ (Builtin.Dict.showsAll d >>= _) _ _ s
  unfold Builtin.Dict.showsAll
  rw [if_neg (by rw [hd]; exact Bool.false_ne_true)]
  refine wpAny_bind (wpAny_pure ?_)
  refine wpAny_bind (wpAny_dictEntries ho hdat ?_)
  refine wpAny_bind (wpAny_dictEpoch ho hdat ?_)
  refine wpAny_bind (wpAny_newObj_type (wpAny_pure ⟨_, rfl, "dict_keyiterator", _, ⟨_, Heap.get?_push_size _ rfl, rfl⟩, F.slot_dict_keyiterator_next.lookup, ?_⟩))
  simpa [rawInt] using hQ
theorem rawd_next {it d : Addr} {i ep : Nat} {es : Array DictEntry} {Q : Option Value → Shared → Prop} (hit : s.heap.IsKeyIter it d i es.size ep) (hm : RawD s.heap d es ep) (hlt : i < es.size)
    (hQ : ∀ h', h'.IsKeyIter it d (i + 1) es.size ep → Heap.SameBut it s.heap h' → Q (some es[i].key) { s with heap := h' }) : wpAny (model prog w) A (pyNext (.ref it)) Q E s := by
  obtain ⟨o, ho, hc, hd⟩ := id hit
  obtain ⟨od, hod, hcd, hdd⟩ := id hm
  unfold pyNext
  refine wpAny_bind (wpAny_attempt (wpAny_callSpecial?_slot (name := Str.ofString "__next__") hit.typeIs F.slot_dict_keyiterator_next
    (wpAny_call_entry F.slot_dict_keyiterator_next hit.typeIs F.entry_dict_keyiterator_next ?_ (F.args_dict_keyiterator_next_1 _))))
  refine wpAny_bind (wpAny_pure ?_)
  refine wpAny_bind ?_
  refine wpAny_bind ?_
  first | refine wpAny_bind (wpAny_typeNameOfWhole_keyiter hit.typeIs (wpAny_pure ?_)) | refine wpAny_bind (wpAny_typeNameOf_keyiter hit.typeIs (wpAny_pure ?_))
  refine wpAny_bind (wpAny_fieldsOf ho hd ?_)
  have hown : Builtin.Dict_items.ownsTuple "dict_keyiterator" = false := by decide
  simp only [hown, Bool.false_eq_true, if_false]
  show wpAny _ _ (if (Value.ref d == Value.none) = true then _ else _) _ _ s
  rw [if_neg (show ¬ ((Value.ref d == Value.none) = true) from Bool.false_ne_true)]
  refine wpAny_bind (wpAny_pure ?_)
  refine wpAny_bind (wpAny_dictEntries hod hdd ?_)
  rw [if_neg (by simp)]
  refine wpAny_bind (wpAny_pure ?_)
  refine wpAny_bind (wpAny_dictEpoch hod hdd ?_)
  rw [if_neg (by simp)]
  refine wpAny_pure ?_
  simp only [show ¬ ((i : Int) < 0) from by omega, if_false, Int.toNat_natCast, Array.getElem?_eq_getElem hlt]
  refine wpAny_bind ?_
  first | refine wpAny_bind (wpAny_typeNameOfWhole_keyiter hit.typeIs (wpAny_pure ?_)) | refine wpAny_bind (wpAny_typeNameOf_keyiter hit.typeIs (wpAny_pure ?_))
  refine wpAny_bind (wpAny_isOneOf_keyiter hit.typeIs ?_)
  show wpAny _ _ (setField (.ref it) 1 (rawInt ((i : Int) + 1)) >>= _) _ _ s
  refine wpAny_bind (wpAny_setField ho hd (by simp) ?_)
  have hit' : (s.heap.update it (Obj.mapFields (·.setIfInBounds 1 (rawInt ((i : Int) + 1))))).IsKeyIter it d (i + 1) es.size ep :=
    ⟨_, Heap.get?_update_self _ ho (Obj.isFreed_of_fields (Obj.data_mapFields hd _)), (Obj.cls_mapFields ..).trans hc, by rw [Obj.data_mapFields hd]; simp [rawInt]⟩
  refine wpAny_bind (wpAny_holding ?_)
  refine wpAny_bind (wpAny_isOneOf_keyiter (s := { s with heap := s.heap.update it (Obj.mapFields (·.setIfInBounds 1 (rawInt ((i : Int) + 1)))) }) hit'.typeIs ?_)
  show wpAny _ _ (pure es[i].key) _ _ _
  exact wpAny_pure (wpAny_pure ⟨_, rfl, wpAny_pure (hQ _ hit' (Heap.SameBut.update ..))⟩)
theorem rawd_end {it d : Addr} {ep : Nat} {es : Array DictEntry} {Q : Option Value → Shared → Prop} (hh : A.handled = none) (hit : s.heap.IsKeyIter it d es.size es.size ep) (hm : RawD s.heap d es ep)
    (hQ : ∀ h', Heap.ExtBut it s.heap h' → Q none { s with heap := h' }) : wpAny (model prog w) A (pyNext (.ref it)) Q E s := by
  obtain ⟨o, ho, hc, hd⟩ := id hit
  obtain ⟨od, hod, hcd, hdd⟩ := id hm
  unfold pyNext
  refine wpAny_bind (wpAny_attempt (wpAny_callSpecial?_slot (name := Str.ofString "__next__") hit.typeIs F.slot_dict_keyiterator_next
    (wpAny_call_entry F.slot_dict_keyiterator_next hit.typeIs F.entry_dict_keyiterator_next ?_ (F.args_dict_keyiterator_next_1 _))))
  refine wpAny_bind (wpAny_pure ?_)
  refine wpAny_bind ?_
  refine wpAny_bind ?_
  first | refine wpAny_bind (wpAny_typeNameOfWhole_keyiter hit.typeIs (wpAny_pure ?_)) | refine wpAny_bind (wpAny_typeNameOf_keyiter hit.typeIs (wpAny_pure ?_))
  refine wpAny_bind (wpAny_fieldsOf ho hd ?_)
  have hown : Builtin.Dict_items.ownsTuple "dict_keyiterator" = false := by decide
  simp only [hown, Bool.false_eq_true, if_false]
  show wpAny _ _ (if (Value.ref d == Value.none) = true then _ else _) _ _ s
  rw [if_neg (show ¬ ((Value.ref d == Value.none) = true) from Bool.false_ne_true)]
  refine wpAny_bind (wpAny_pure ?_)
  refine wpAny_bind (wpAny_dictEntries hod hdd ?_)
  rw [if_neg (by simp)]
  refine wpAny_bind (wpAny_pure ?_)
  refine wpAny_bind (wpAny_dictEpoch hod hdd ?_)
  rw [if_neg (by simp)]
  refine wpAny_pure ?_
  simp only [show ¬ ((es.size : Int) < 0) from by omega, if_false, Int.toNat_natCast, Array.getElem?_eq_none (Nat.le_refl _)]
  refine wpAny_bind ?_
  first | refine wpAny_bind (wpAny_typeNameOfWhole_keyiter hit.typeIs (wpAny_pure ?_)) | refine wpAny_bind (wpAny_typeNameOf_keyiter hit.typeIs (wpAny_pure ?_))
  show wpAny _ _ (setField (.ref it) 0 .none >>= _) _ _ s
  refine wpAny_bind (wpAny_setField ho hd (by simp) ?_)
  show wpAny _ _ (newExc (.type "StopIteration") [] >>= _) _ _ _
  refine wpAny_bind ?_
  simp only [newExc, newTuple]
  refine wpAny_bind (wpAny_newObj_type ?_ (by size_fits))
  refine wpAny_bind (m := firstArgMember _ _) (wpAny_of_eq (a := Value.none) (by first | rfl | (simp only [firstArgMember]; rfl)) ?_)
  refine wpAny_newObj_type ?_ (by size_fits)
  simp only [raiseNew]
  refine wpAny_bind (wpAny_handled ?_)
  rw [show A.in1.handled = none from hh]
  refine wpAny_bind (wpAny_pure (wpAny_throw ?_))
  refine wpAny_bind (wpAny_isInstance (T := "StopIteration") (b := true) ⟨_, Heap.get?_push_size _ rfl, rfl⟩ isSubtype_stop ?_)
  exact wpAny_pure (hQ _ (((Heap.SameBut.update ..).extBut.push _).push _))
theorem rawd_walks (hh : A.handled = none) (I d : Addr) (hne : d ≠ I) (es : Array DictEntry) (ep : Nat) :
    Walks prog w A I [I, d] [I] es.size (fun i v => ∃ e, es[i]? = some e ∧ v = e.key) (fun i h => h.IsKeyIter I d i es.size ep ∧ RawD h d es ep) where
  sub := fun b hb => by simp at hb; simp [hb]
  frame := fun _ _ _ st hk => ⟨st.1.at fun o e => hk I (by simp) o e, st.2.at fun o e => hk d (by simp) o e⟩
  item := fun i s Q E hi st hQ => by
    refine rawd_next st.1 st.2 hi fun h' hit' hs' => ?_
    exact hQ _ h' s.toks ⟨es[i], by simp [hi], rfl⟩ ⟨hit', st.2.at fun o e => hs'.extBut d o hne e⟩ fun b o hb e => hs'.extBut b o (fun h => hb (by simp [h])) e
  done := fun s Q E st hQ => rawd_end hh st.1 st.2 fun h' he' => hQ h' s.toks fun b o hb e => he' b o (fun h => hb (by simp [h])) e
  self := fun _ _ _ _ st hQ => wpAny_pyIter_keyiter st.1 hQ
variable {env : Env} {h₀ : Heap} {target : PySem.Expr} {body : List Stmt} {Q : Flow → Shared → Prop}
theorem rawd_turns {d : Addr} {od : Obj} {es : Array DictEntry} {ep : Nat} {xs : List Itm} {m₀ : Str → Option Value} {news : List (Addr × Obj)}
    (hh : A.handled = none) (F : Fr h₀ env.locals s.heap m₀) (N : News h₀ env.locals s.heap news) (lo : (d == sysModules) = false) (hm : (d, od) ∈ news) (hc : od.ExactDict) (hd : od.data = .dict es ep)
    (hx : es.toList.map (fun e => Itm.val e.key) = xs)
    (rest₀ : ∀ I : Addr, (∀ p ∈ news, p.1 < I) → ItemsRest prog w A E h₀ env target body Q s [(I, "dict_keyiterator")] [(d, od)] xs m₀ news) :
    wpAny (model prog w) A (pyIter (.ref d)) (fun it s₂ => TurnsAt prog w A h₀ env target body Q E it s₂) E s := by
  subst hx
  have hax := N _ hm
  have hat : RawD s.heap d es ep := ⟨od, hax.1, hc, hd⟩
  have hne : d ≠ s.heap.objs.size := Nat.ne_of_lt (Heap.lt_size hax.1)
  refine rawd_iter lo hat ?_
  refine ktu_core (tk0 := s.toks) (keep := [(d, od)]) (KTurns.ofWalks (rawd_walks hh s.heap.objs.size d hne es ep) fun i v s Q E st q => letGo_keyiter st.1 q) (by simp) ?_ ?_ ?_ ?_ ?_ ?_ ?_ ?_ (F.push _) (fun p hp => ⟨Heap.get?_push_of_some _ (N p hp).1, (N p hp).2⟩) (And.intro hm trivial) (rest₀ _ fun p hp => Heap.lt_size (N p hp).1)
  · rintro i v h ⟨e, he, rfl⟩
    exact ⟨.val e.key, by rw [List.getElem?_map, Array.getElem?_toList, he]; rfl, rfl⟩
  · rintro i h ⟨⟨oi, g, c, _⟩, _⟩
    exact ⟨[(s.heap.objs.size, oi)], ⟨⟨rfl, c⟩, trivial⟩, fun p hp => by rw [List.mem_singleton.mp hp]; exact g⟩
  · intro b hb
    have hb' : b = s.heap.objs.size := by simpa using hb
    rw [hb']
    exact ⟨List.mem_cons_self .., next_is_new F⟩
  · intro b hb
    simpa using hb
  · intro b hb
    have hb' : b = s.heap.objs.size ∨ b = d := by simpa using hb
    rcases hb' with e | e
    · exact .inl (by simp [e])
    · exact .inr ⟨od, by simp [e]⟩
  · intro hI
    have hb' : env.locals = s.heap.objs.size ∨ env.locals = d := by simpa using hI
    rcases hb' with e | e
    · exact absurd F.ns.lt (e ▸ Nat.lt_irrefl _)
    · exact hax.2.1 e.symm
  · intro p hp hI
    exact absurd (Heap.lt_size (N p hp).1) ((List.mem_singleton.mp hI) ▸ Nat.lt_irrefl _)
  · exact ⟨⟨_, Heap.get?_push_size _ rfl, rfl, rfl⟩, _, Heap.get?_push_of_some _ hax.1, hc, hd⟩
end

end
section
theorem off_pair : True := by
  w_top off
  trivial
/-- a Composer with these pairs stands at x -/
structure CAt (w : World) (h : Heap) (x dx D : Addr) (t u : Tok) : Prop where
  inst : h.get? x = some (instObj 168 dx)
  dict : ∃ h1 h2 t1 t2 S n, h.get? dx = some (dictOf [⟨h1, .str (Str.ofString "pairs") t1, .ref D⟩, ⟨h2, .str (Str.ofString "seconds") t2, S⟩] n)
  lo : (D == sysModules) = false
  pairs : h.DictOfH (tupleKind (intKind PR w)) D (pairsOf t u)
theorem dictHKeep {w : World} {h h' : Heap} {D : Addr} {xs : List (List Int × Addr × Value)} (x : h.DictOfH (tupleKind (intKind PR w)) D xs) (k : Kp h h') : h'.DictOfH (tupleKind (intKind PR w)) D xs :=
  let ⟨o, es, ep, e, a, b, c, d, n⟩ := x; ⟨o, es, ep, k _ _ e, a, b, c, fun y hy => keyKeep (d y hy) k, n⟩
theorem CAt.mono {w : World} {h h' : Heap} {x dx D : Addr} {t u : Tok} (c : CAt w h x dx D t u) (k : Kp h h') : CAt w h' x dx D t u where
  inst := k _ _ c.inst
  dict := let ⟨h1, h2, t1, t2, S, n, e⟩ := c.dict; ⟨h1, h2, t1, t2, S, n, k _ _ e⟩
  lo := c.lo
  pairs := dictHKeep c.pairs k
def pairV (t u : Tok) (x y : Int) : Value := ((atKey (pairsOf t u) [x, y]).map (·.2)).getD .none
section
variable {prog : Program} {w : World} {A : Around} {E : Value → Shared → Prop} {s : Shared} {d a : Addr} {xs : List (List Int × Addr × Value)} {k : List Int} {dflt : Value}
theorem th_method {pl : Sem Bool} {Q : Value × List Value → Shared → Prop} (D : s.heap.DictOfH (tupleKind (intKind prog w)) d xs) (h : Q (.builtin "dict.get", [.ref d]) s) : wpAny (model prog w) A (getMethod (.ref d) "get" pl) Q E s :=
  getMethod_builtin D.typeIs PySem.F.plainAttrs_dict PySem.F.slot_dict_get PySem.F.type_dict_get (dictOfH_noDict D) h
theorem th_get2 {Q : Value → Shared → Prop} (D : s.heap.DictOfH (tupleKind (intKind prog w)) d xs) (lo : (d == sysModules) = false) (hu : A.units + 1 < cLine) (hkey : IsTupleKey (intKind prog w) s.heap k a) (h : ∀ tk, Q (((atKey xs k).map (·.2)).getD dflt) { s with toks := tk }) :
    wpAny (model prog w) A (call (.builtin "dict.get") [.ref d, .ref a, dflt]) Q E s :=
  call_meetsIn PySem.F.slot_dict_get D.typeIs PySem.F.entry_dict_get (PySem.F.args_dict_get_3 _ _ _) (meetsH_dict_get_default (tupleKind (intKind prog w)) d a lo dflt) ⟨tupleKind_room_in1 hu, k, xs, hkey, D, h _⟩
theorem newKey2 {h₀ h : Heap} {L a : Addr} {news : List (Addr × Obj)} {x y : Int} {t u : Tok} {n : Nat} (N : News h₀ L h news) (hm : (a, tupOf [.int x t, .int y u] n) ∈ news) : IsTupleKey (intKind prog w) h [x, y] a :=
  ⟨_, _, n, N.get hm, rfl, rfl, .cons (intKind_is _ _ _ _) (.cons (intKind_is _ _ _ _) .nil)⟩
end
theorem cpair_call {w : World} {A : Around} {s : Shared} {Q E : Value → Shared → Prop} {x dx D : Addr} {t u v1 v2 : Tok} {a b : Int} (H : Here w A s.heap) (R : Room A 4) (C : CAt w s.heap x dx D t u) (ha : a ∈ codes) (hb : b ∈ codes)
    (ret : ∀ h' tk', Kp s.heap h' → Q (pairV t u a b) { s with heap := h', toks := tk' }) :
    wpAny (model PR w) A (call (.ref 158) [.ref x, .int a v1, .int b v2]) Q E s := by
  obtain ⟨i1, ⟨h1, h2, t1, t2, S, n, i2⟩, lo, ph⟩ := C
  refine wpAny_call ?_
  k_dflt (refine' enterP ?enH24 ?enR24 ?en624 ?en724 ?en924 ?enB24 ?_ ?ec224 ?ec324 ?ec424 ?ec524; (case enH24 => assumption); (case enR24 => assumption); (case en624 => k_is); (case en724 => k_is); (case en924 => first | exact BindsTo.of_eq rfl | exact binds_K (by assumption) rfl (by k_is) rfl rfl rfl); (case ec524 => decide); (case enB24 => exact locs rfl); (case ec224 => exact rfl); (case ec324 => exact rfl); (case ec424 => exact rfl); k_whole; intro enq01 enq02 enq03 enq04 enq05 enq06 enq07 enq08 enq09 enq10 enq11 enq12 enq13 enq14 enq15 enq16 enq17 enq18 enq19 enq20 enq21 enq22 enq23 enq24 enq25 enq26 enq27 enq28; (try dsimp only); (try k_fold))
  clear H
  (repeat' (first | (k_unfold; (try dsimp only)) | ((with_reducible show wpAny _ _ (getMethod (Value.ref _) (Str.ofString "get") _) _ _ _); k_dflt (refine' th_method (w := _) (prog := PR) (by exact dictHKeep (by with_reducible assumption) (Fr.keep (by with_reducible assumption))) ?_)) | ((with_reducible show wpAny _ _ (call (Value.builtin "dict.get") [Value.ref _, Value.ref _, _]) _ _ _); k_dflt (refine' th_get2 (by exact dictHKeep (by with_reducible assumption) (Fr.keep (by with_reducible assumption))) (by assumption) (by exact Room.units2 (by assumption)) (by exact newKey2 (by k_asm) (by k_mem)) ?_); intro tk') | walk1 | (dsimp only; walk1) | (leave1; (try dsimp only))))
  all_goals exact endV (Q := Q) ret (Fr.keep (by with_reducible assumption))

end
section
theorem off_compf : True := by
  w_top off
  trivial
def pairI (x y : Int) : Option Int := if y = 769 then (if x = 69 then some 201 else if x = 101 then some 233 else none) else none
theorem pairV_cases (t u : Tok) (x y : Int) : (pairI x y = none ∧ pairV t u x y = .none) ∨ ∃ p k, pairI x y = some p ∧ pairV t u x y = .int p k ∧ p ∈ codes := by
  unfold pairV pairI
  by_cases h1 : y = 769
  · subst h1
    by_cases h2 : x = 69
    · subst h2; exact .inr ⟨201, t, rfl, rfl, by decide⟩
    · by_cases h3 : x = 101
      · subst h3; exact .inr ⟨233, u, rfl, rfl, by decide⟩
      · refine .inl ⟨by simp [h2, h3], ?_⟩
        have e : atKey (pairsOf t u) [x, 769] = none := by
          simp [atKey, pairsOf]
          exact ⟨fun e => h2 e.symm, fun e => h3 e.symm⟩
        rw [e]; rfl
  · refine .inl ⟨by simp [h1], ?_⟩
    have e : atKey (pairsOf t u) [x, y] = none := by
      simp [atKey, pairsOf]
      exact ⟨fun _ e => h1 e.symm, fun _ e => h1 e.symm⟩
    rw [e]; rfl
/-- one step of composed -/
def cstep (σ : List Int × Int × Int) (c : Int) : List Int × Int × Int :=
  let w := cccF c
  let rest := if w = 0 then (σ.1 ++ [c], (σ.1.length : Int), -1) else (σ.1 ++ [c], σ.2.1, if w > σ.2.2 then w else σ.2.2)
  if 0 ≤ σ.2.1 ∧ (σ.2.1 = (σ.1.length : Int) - 1 ∨ σ.2.2 < w) then (match pairI (σ.1.getD σ.2.1.toNat 0) c with | some p => (σ.1.set σ.2.1.toNat p, σ.2.1, σ.2.2) | none => rest) else rest
def cfold (ns : List Int) : List Int × Int × Int := ns.foldl cstep ([], -1, -1)
def COk (σ : List Int × Int × Int) (i : Nat) : Prop := (σ.2.1 = -1 ∨ 0 ≤ σ.2.1 ∧ σ.2.1 < (σ.1.length : Int)) ∧ (∀ x ∈ σ.1, x ∈ codes) ∧ σ.1.length ≤ i
theorem cstep_ok {σ : List Int × Int × Int} {i : Nat} {c : Int} (h : COk σ i) (hc : c ∈ codes) : COk (cstep σ c) (i + 1) := by
  obtain ⟨fs, st, mo⟩ := σ
  obtain ⟨h1, h2, h3⟩ := h
  dsimp only at h1 h2 h3
  have app : ∀ x ∈ fs ++ [c], x ∈ codes := fun x hx => (List.mem_append.mp hx).elim (h2 x) (fun h => by rw [List.mem_singleton.mp h]; exact hc)
  have rest : COk (if cccF c = 0 then (fs ++ [c], (fs.length : Int), -1) else (fs ++ [c], st, if cccF c > mo then cccF c else mo)) (i + 1) := by
    by_cases hw : cccF c = 0
    · rw [if_pos hw]
      refine ⟨.inr ⟨?_, ?_⟩, app, ?_⟩ <;> simp <;> omega
    · rw [if_neg hw]
      refine ⟨?_, app, ?_⟩
      · rcases h1 with h1 | ⟨h1, h1'⟩
        · exact .inl h1
        · refine .inr ⟨h1, ?_⟩; simp; omega
      · simp; omega
  unfold cstep
  dsimp only
  by_cases hg : 0 ≤ st ∧ (st = (fs.length : Int) - 1 ∨ mo < cccF c)
  · rw [if_pos hg]
    rcases pairV_cases 0 0 (fs.getD st.toNat 0) c with ⟨e, _⟩ | ⟨p, k, e, _, hp⟩
    · rw [e]; exact rest
    · rw [e]
      refine ⟨?_, fun x hx => ?_, ?_⟩
      · dsimp only
        rw [List.length_set]; exact h1
      · rcases List.mem_or_eq_of_mem_set hx with hx | rfl
        · exact h2 x hx
        · exact hp
      · dsimp only
        rw [List.length_set]; omega
  · rw [if_neg hg]; exact rest
theorem cfold_ok {ns : List Int} (hc : ∀ x ∈ ns, x ∈ codes) : ∀ i, i ≤ ns.length → COk (cfold (ns.take i)) i := by
  intro i
  induction i with
  | zero => exact fun _ => ⟨.inl rfl, fun x hx => absurd hx List.not_mem_nil, Nat.le_refl _⟩
  | succ i ih =>
    intro hi
    have hx : ns[i]? = some (ns[i]'(by omega)) := List.getElem?_eq_getElem (by omega)
    rw [take_snoc hx, cfold, List.foldl_append]
    exact cstep_ok (ih (by omega)) (hc _ (List.getElem_mem _))
theorem ints_set {p : Int} {t : Tok} : ∀ {vs : List Value} {ns : List Int} (j : Nat), IntsAre vs ns → IntsAre (vs.set j (.int p t)) (ns.set j p)
  | _, _, _, .nil => .nil
  | _, _, 0, .cons _ _ h => .cons p t h
  | _, _, j + 1, .cons n t' h => .cons n t' (ints_set j h)
theorem Room.roomU {A B : Around} {n : Nat} (r : Room A (n + 2)) (e : B.depth ≤ A.depth + 1) : B.depth < recursionLimit := by have := r.1; omega
theorem with_room {M : Model} {A B : Around} {α : Type} {t : Sem α} {Q : α → Shared → Prop} {E : Value → Shared → Prop} {s : Shared} {n : Nat} (r : Room A (n + 2)) (hd : B.depth ≤ A.depth + 2) (hu : B.units ≤ A.units + 20) (h : Room B n → wpAny M B t Q E s) : wpAny M B t Q E s := by
  obtain ⟨a, b⟩ := r
  exact h ⟨by omega, by omega⟩
theorem cfold_step {ns : List Int} {i : Nat} {x : Int} {σ : List Int × Int × Int} (hx : ns[i]? = some x) (h : cfold (ns.take i) = σ) : cfold (ns.take (i + 1)) = cstep σ x := by
  rw [take_snoc hx, cfold, List.foldl_append, ← h]
  rfl
abbrev News.rest2 {g h : Heap} {L : Addr} {p q : Addr × Obj} {r : List (Addr × Obj)} (_ : News g L h (p :: q :: r)) : List (Addr × Obj) := r
def compJ (d x fF : Addr) (cst : List (Addr × Obj)) (ns : List Int) (i : Nat) (m : Str → Option Value) (nx : List (Addr × Obj)) : Prop :=
  ∃ (vF : List Value) (nF : Nat) (t1 t2 : Tok), m (Str.ofString "found") = some (.ref fF) ∧ m (Str.ofString "starter") = some (.int (cfold (ns.take i)).2.1 t1) ∧ m (Str.ofString "most") = some (.int (cfold (ns.take i)).2.2 t2) ∧
    m (Str.ofString "composer") = some (.ref x) ∧ m (Str.ofString "data") = some (.ref d) ∧ nx = (fF, listOf vF.toArray nF) :: cst ∧ IntsAre vF (cfold (ns.take i)).1
theorem comp_end {g h h2 : Heap} {L d x fF : Addr} {m : Str → Option Value} {ns fs : List Int} {st mo : Int} {i : Nat} {c : Int} {vF : List Value} {nF : Nat} {t1 t2 : Tok} {cst own : List (Addr × Obj)} {σ : List Int × Int × Int} {gs : Array GenState} {dr : Drawn} {os : OsState} {tk tk2 : Nat} {all : List (Addr × Obj)}
    (F7 : Fr g L h m) (N7 : News g L h all) (hall : ∀ p ∈ (fF, listOf vF.toArray nF) :: (cst ++ own), p ∈ all) (m1 : m (Str.ofString "found") = some (.ref fF)) (m2 : m (Str.ofString "starter") = some (.int st t1)) (m3 : m (Str.ofString "most") = some (.int mo t2)) (m4 : m (Str.ofString "composer") = some (.ref x)) (m5 : m (Str.ofString "data") = some (.ref d))
    (hx : ns[i]? = some c) (hσ : cfold (ns.take i) = σ) (hs : cstep σ c = (fs, st, mo)) (i1 : IntsAre vF fs) (hoff : OwnOff own (fF :: cst.map (·.1))) :
    InvEndG g L (compJ d x fF cst ns (i + 1)) own ⟨h2, gs, dr, tk2, os⟩ ⟨h, gs, dr, tk, os⟩ := by
  have e := (cfold_step hx hσ).trans hs
  refine InvEndG.intro F7 N7 (nx := (fF, listOf vF.toArray nF) :: cst) ⟨vF, nF, t1, t2, m1, by rw [e]; exact m2, by rw [e]; exact m3, m4, m5, rfl, by rw [e]; exact i1⟩ hoff (fun p hp => hall p ?_) (fun p hp => hall p (.tail _ (List.mem_append_right _ hp)))
  rcases List.mem_cons.mp hp with rfl | hp
  · exact .head _
  · exact .tail _ (List.mem_append_left _ hp)

end
section
theorem off_comp : True := by
  w_top off
  trivial
local macro_rules | `(tactic| k_room) => `(tactic| (refine' Room.roomU ?r ?e; (case r => assumption); (case e => exact Nat.le_refl _)))
theorem setL_of : ∀ {l : List Value} {k : Nat} {v : Value}, k < l.length → ki_setL l k v = some (l.set k v)
  | [], _, _, h => absurd h (Nat.not_lt_zero _)
  | _ :: _, 0, _, _ => rfl
  | x :: r, k + 1, v, h => by
    have h' : k < r.length := Nat.lt_of_succ_lt_succ h
    show (match ki_setL r k v with | some q => some (x :: q) | none => none) = some (x :: r.set k v)
    rw [setL_of h']
theorem keysP {w : World} {g : Heap} {t u : Tok} (k1 : IsTupleKey (intKind PR w) g [69, 769] 342) (k2 : IsTupleKey (intKind PR w) g [101, 769] 341) : KeysIn PR w g (pairsOf t u) := fun x hx => by
  rcases List.mem_cons.mp hx with rfl | hx
  · exact k1
  · rw [List.mem_singleton.mp hx]; exact k2
theorem getD_codes {fs : List Int} {j : Nat} (h : ∀ x ∈ fs, x ∈ codes) (hj : j < fs.length) : fs.getD j 0 ∈ codes := by
  rw [List.getD_eq_getElem?_getD, List.getElem?_eq_getElem hj]
  exact h _ (List.getElem_mem hj)
theorem cat_of {w : World} {h₀ h : Heap} {L x dx D : Addr} {m : Str → Option Value} {news : List (Addr × Obj)} {oD : Obj} {t u : Tok} {a1 a2 : Int} {t1 t2 : Tok} {S : Value} {n : Nat} (F : Fr h₀ L h m) (N : News h₀ L h news) (h1 : (x, instObj 168 dx) ∈ news)
    (h2 : (dx, dictOf [⟨a1, .str (Str.ofString "pairs") t1, .ref D⟩, ⟨a2, .str (Str.ofString "seconds") t2, S⟩] n) ∈ news) (h3 : (D, oD) ∈ news) (lo : (D == sysModules) = false) (hd : ODict PR w oD (pairsOf t u)) (hk : KeysIn PR w h₀ (pairsOf t u)) : CAt w h x dx D t u :=
  ⟨N.get h1, ⟨_, _, _, _, _, _, N.get h2⟩, lo, hd.at (N.get h3) (hk.mono F.keep)⟩
theorem cpair_callE {w : World} {A : Around} {s : Shared} {Q E : Value → Shared → Prop} {x dx D : Addr} {t u v1 v2 : Tok} {a b : Int} {v : Value} (H : Here w A s.heap) (R : Room A 4) (C : CAt w s.heap x dx D t u) (ha : a ∈ codes) (hb : b ∈ codes) (hv : pairV t u a b = v)
    (ret : ∀ h' tk', Kp s.heap h' → Q v { s with heap := h', toks := tk' }) :
    wpAny (model PR w) A (call (.ref 158) [.ref x, .int a v1, .int b v2]) Q E s := by
  subst hv
  exact cpair_call H R C ha hb ret
/-- the frame's names -/
def mapOf {g h : Heap} {L : Addr} {m : Str → Option Value} (_ : Fr g L h m) : Str → Option Value := m
/-- the rest is walked once, however the first part went -/
def AllKv (m : Str → Option Value) : List (Str × Value) → Prop
  | [] => True
  | p :: r => m p.1 = some p.2 ∧ AllKv m r
def JoinAt (P : Prop) (s : Shared) (g : Heap) (L : Addr) (led : List (Addr × Obj)) (kv : List (Str × Value)) (s' : Shared) : Prop :=
  P ∧ ∃ h' tk' m', s' = { s with heap := h', toks := tk' } ∧ Fr g L h' m' ∧ News g L h' led ∧ AllKv m' kv
theorem join_next {M : Model} {A : Around} {E : Value → Shared → Prop} {t : Sem Flow} {K : Flow → Shared → Prop} {s : Shared} {g : Heap} {L : Addr} {m : Str → Option Value} {led : List (Addr × Obj)}
    (_ : Fr g L s.heap m) (_ : News g L s.heap led) (P : Prop) (kv : List (Str × Value))
    (h1 : let J' : Shared → Prop := JoinAt P s g L led kv; let Q' : Flow → Shared → Prop := fun f s' => (match f with | .next => J' s' | f => K f s'); wpAny M A t Q' E s)
    (h2 : P → ∀ h' tk' m', Fr g L h' m' → News g L h' led → AllKv m' kv → K .next { s with heap := h', toks := tk' }) : wpAny M A t K E s :=
  wpAny_mono h1 (fun f s' h => by
    cases f with
    | next => obtain ⟨hp, h', tk', m', rfl, F', N', a⟩ := h; exact h2 hp _ _ _ F' N' a
    | _ => exact h) (fun _ _ e => e)
theorem join_end {s : Shared} {g h' : Heap} {L : Addr} {P : Prop} {m' : Str → Option Value} {led all : List (Addr × Obj)} {kv : List (Str × Value)} {tk' : Nat} (p : P) (F : Fr g L h' m') (N : News g L h' all) (hs : ∀ q ∈ led, q ∈ all) (a : AllKv m' kv) :
    JoinAt P s g L led kv { s with heap := h', toks := tk' } := ⟨p, _, _, _, rfl, F, fun q hq => N q (hs q hq), a⟩
theorem cstep_rest {fs : List Int} {st mo c : Int} (h : ¬ (0 ≤ st ∧ (st = (fs.length : Int) - 1 ∨ mo < cccF c)) ∨ pairI (fs.getD st.toNat 0) c = none) :
    cstep (fs, st, mo) c = if cccF c = 0 then (fs ++ [c], (fs.length : Int), -1) else (fs ++ [c], st, if cccF c > mo then cccF c else mo) := by
  rcases h with h | h
  · simp only [cstep]; rw [if_neg h]
  · simp only [cstep]; rw [h]; split <;> rfl
theorem comp_call {w : World} {A : Around} {s : Shared} {Q E : Value → Shared → Prop} {l d : Addr} {vs : List Value} {n : Nat} {ns : List Int} {a : DP} (H : Here w A s.heap) (R : Room A 9) (D : DAt w s.heap d a) (hl : s.heap.get? l = some (listOf vs.toArray n)) (hi : IntsAre vs ns) (hc : ∀ x ∈ ns, x ∈ codes) (hlen : ns.length < 60)
    (ret : ∀ (l : Addr) (vs : List Value) (n : Nat) (h' : Heap) (tk' : Nat), Kp s.heap h' → s.heap.get? l = none → h'.get? l = some (listOf vs.toArray n) → IntsAre vs (cfold ns).1 → Q (.ref l) { s with heap := h', toks := tk' }) :
    wpAny (model PR w) A (call (.ref 180) [.ref l, .ref d, .none]) Q E s := by
  have hL0 := isListOf hl
  have hX := H.inn
  have K1 := key342 hX
  have K2 := key341 hX
  refine wpAny_call ?_
  k_dflt (refine' enterP ?enH25 ?enR25 ?en625 ?en725 ?en925 ?enB25 ?_ ?ec225 ?ec325 ?ec425 ?ec525; (case enH25 => assumption); (case enR25 => assumption); (case en625 => k_is); (case en725 => k_is); (case en925 => first | exact BindsTo.of_eq rfl | exact binds_K (by assumption) rfl (by k_is) rfl rfl rfl); (case ec525 => decide); (case enB25 => exact locs rfl); (case ec225 => exact rfl); (case ec325 => exact rfl); (case ec425 => exact rfl); k_whole; intro enq01 enq02 enq03 enq04 enq05 enq06 enq07 enq08 enq09 enq10 enq11 enq12 enq13 enq14 enq15 enq16 enq17 enq18 enq19 enq20 enq21 enq22 enq23 enq24 enq25 enq26 enq27 enq28; (try dsimp only); (try k_fold))
  clear H hX
  (repeat ((fail_if_success (with_reducible show wpAny _ _ (call (Value.ref 168) _) _ _ _)); walk1))
  k_dflt (refine' call_cls ?k1 ?k2 ?k3 ?k4 ?k5 ?k6 ?_; (case k1 => k_asm); (case k2 => k_asm); (case k3 => k_asm); (case k4 => k_is); (case k5 => k_is); (case k6 => k_is); k_whole; intro x' d' h' F' N' l1 l2; (try k_lt l1); (try k_lt2 l2); (try k_sweep))
  k_dflt k_enter
  refine with_room (by assumption) (Nat.le_refl _) (Nat.le_trans (Nat.le_of_eq (Nat.add_assoc _ _ _)) (Nat.add_le_add_left (Nat.le_of_ble_eq_true rfl) _)) ?_
  intro R2
  have D2 := D.mono (Fr.keep (by assumption : Fr s.heap _ _ _))
  (repeat ((fail_if_success (with_reducible show wpAny _ _ (call (Value.ref 130) _) _ _ _)); walk1))
  k_dflt (refine' prim_call (by ktr_rel) (by ktr_room) (DAt.mono (by with_reducible assumption) (Fr.keep (by with_reducible assumption))) ?_)
  intro pcD h9 tk9 pct pcu k9 fr9 ds9 lo9
  obtain ⟨oD9, es9, ep9, gD9, cD9, dD9, eD9, kD9, nD9⟩ := ds9
  have o9 := newOff (by with_reducible assumption) fr9
  (try simp only [LCg.Off1, and_true] at o9)
  have F9 := Fr.keeps (by with_reducible assumption) k9
  have N9 := newsAdd (by with_reducible assumption) (by with_reducible assumption) k9 fr9 gD9
  clear k9 fr9 gD9 kD9
  k_sweep
  (repeat ((fail_if_success (with_reducible show wpAny _ _ (exec (Stmt.For _ _ _ _ _) _) _ _ _)); walk1))
  ((rename Fr _ _ _ _ => lF'); (with_unfolding_all refine' For_turns lF' ?_; k_whole))
  iterate 3 walk1
  rename _ = List.map (entryOfKey _) _ => eD
  obtain ⟨t9, u9, OD⟩ : ∃ t u, ODict PR w _ (pairsOf t u) := ⟨_, _, _, _, by assumption, by assumption, eD, by assumption⟩
  have KP : KeysIn PR w s.heap (pairsOf t9 u9) := keysP K1 K2
  refine rawd_turns (xs := [.val (.ref 342), .val (.ref 341)]) rfl (by k_asm) (by k_asm) (by assumption) (by k_mem) (by assumption) (by assumption) (by rw [eD]; rfl) ?_
  intro i' l1
  try k_lt l1
  clear eD
  (repeat ((fail_if_success (with_reducible show wpAny _ _ (exec (Stmt.For _ _ _ _ _) _) _ _ _)); walk1))
  ((rename Fr _ _ _ _ => lF'); (with_unfolding_all refine' For_invVF lF' ?fi1 ?fi2 ?_; (case fi1 => exact rfl); (case fi2 => exact rfl); k_whole))
  walk1
  rename News _ _ _ _ => N0
  obtain ⟨fF, hfF⟩ : ∃ fF, fF = News.a1 N0 := ⟨_, rfl⟩
  obtain ⟨cst, hcst⟩ : ∃ cst, cst = News.rest2 N0 := ⟨_, rfl⟩
  have hfF' := hfF
  have hcst' := hcst
  dsimp only [News.a1] at hfF'
  dsimp only [News.rest2] at hcst'
  refine iter_invG (compJ d x' fF cst ns) rfl hL0 hi (by k_asm) (fun p hp => N0 p (.tail _ hp)) ?hj ?turn ?done
  case hj => subst hfF hcst; exact ⟨[], 0, _, _, by k_dflt rfl, by k_dflt rfl, by k_dflt rfl, by k_dflt rfl, by k_dflt rfl, rfl, .nil⟩
  case turn =>
    clear hfF hcst N0 D2
    subst hfF'
    rintro i c tc m₁ nx h tk own hx ⟨oI, hI⟩ hoff ⟨vF, nF, s1, s2, m1, m2, m3, m4, m5, rfl, i1⟩ F1 N1
    have hcc := hc c (List.mem_of_getElem? hx)
    have ok := cfold_ok hc i (by have := (List.getElem?_eq_some_iff.mp hx).1; omega)
    have hil : i < ns.length := (List.getElem?_eq_some_iff.mp hx).1
    have hoff' := hoff
    rw [hcst'] at N1 hoff'
    dsimp only [envOf, List.cons_append, List.nil_append, List.map] at F1 N1 hoff' hI
    simp only [List.map_cons] at hoff
    generalize hσ : cfold (ns.take i) = σ at *
    obtain ⟨fs, st, mo⟩ := σ
    obtain ⟨ok1, ok2, ok3⟩ := ok
    dsimp only at ok1 ok2 ok3 m2 m3 i1
    have i7 := i1.length
    k_sweep
    replace F1 := Fr.know (Fr.know (Fr.know (Fr.know (Fr.know F1 (x := Str.ofString "found") (by k_dflt (exact m1))) (x := Str.ofString "starter") (by k_dflt (exact m2))) (x := Str.ofString "most") (by k_dflt (exact m3))) (x := Str.ofString "composer") (by k_dflt (exact m4))) (x := Str.ofString "data") (by k_dflt (exact m5))
    (repeat ((fail_if_success (with_reducible show wpAny _ _ (exec (Stmt.If _ _ _ _) _) _ _ _)); walk1))
    rename Fr _ _ _ _ => F5
    rename News _ _ _ _ => N5
    refine join_next F5 N5 (¬ (0 ≤ st ∧ (st = (fs.length : Int) - 1 ∨ mo < cccF c)) ∨ pairI (fs.getD st.toNat 0) c = none)
      [(Str.ofString "found", .ref fF), (Str.ofString "starter", .int st s1), (Str.ofString "most", .int mo s2), (Str.ofString "composer", .ref x'), (Str.ofString "data", .ref d), (Str.ofString "code", .int c tc), (Str.ofString "weight", ((mapOf F5) (Str.ofString "weight")).getD .none)] ?first ?rest
    case first =>
      intro J9 Q9
      rcases pairV_cases t9 u9 (fs.getD st.toNat 0) c with ⟨pe, pv⟩ | ⟨p, k, pe, pv, pc⟩
      · (repeat' (first | (fail_if_success (with_reducible show J9 _)); (first | (k_unfold; (try dsimp only)) | ((with_reducible show wpAny _ _ (call (Value.ref 158) _) _ _ _); k_dflt (refine' cpair_callE (by ktr_rel) (by ktr_room) (by exact cat_of (by k_asm) (by k_asm) (by k_mem) (by k_mem) (by k_mem) (by assumption) (by assumption) (by assumption)) (by exact getD_codes (by assumption) (by omega)) (by assumption) (by assumption) ?_); intro h9 tk9; tb_start) | walk1 | (dsimp only; walk1) | (leave1; (try dsimp only)))))
        all_goals (rename Fr _ _ _ _ => F7; rename News _ _ _ _ => N7; refine join_end (P := _ ∨ _) (.inr pe) F7 N7 (fun _ hq => hq) (by repeat' (first | exact trivial | refine And.intro (by k_dflt rfl) ?_)))
      · (repeat' (first | (fail_if_success (with_reducible show J9 _)); (first | (k_unfold; (try dsimp only)) | ((with_reducible show wpAny _ _ (call (Value.ref 158) _) _ _ _); k_dflt (refine' cpair_callE (by ktr_rel) (by ktr_room) (by exact cat_of (by k_asm) (by k_asm) (by k_mem) (by k_mem) (by k_mem) (by assumption) (by assumption) (by assumption)) (by exact getD_codes (by assumption) (by omega)) (by assumption) (by assumption) ?_); intro h9 tk9; tb_start) | ((with_reducible show wpAny _ _ (setItem (Value.ref _) (Value.int _ _) _) _ _ _); k_dflt (refine' ki_set (by k_asm) (by k_asm) (by assumption) (by omega) (by exact setL_of (by (simp only [Array.length_toList, List.size_toArray]; omega))) (by k_upd) ?_); intro h' F' N'; k_sweep) | walk1 | (dsimp only; walk1) | (leave1; (try dsimp only)))))
        all_goals (rename Fr _ _ _ _ => F7; rename News _ _ _ _ => N7; first
          | refine join_end (P := _ ∨ _) (.inl (by omega)) F7 N7 (fun _ hq => hq) (by repeat' (first | exact trivial | refine And.intro (by k_dflt rfl) ?_))
          | (refine comp_end F7 N7 (by rw [hcst']; exact fun p hp => by first | exact hp | exact .tail _ hp) (by k_dflt rfl) (by k_dflt rfl) (by k_dflt rfl) (by k_dflt rfl) (by k_dflt rfl) hx hσ ?_ (ints_set _ i1) hoff; (simp only [cstep]; (first | (rw [if_pos (by omega)]; (rename pairI _ _ = _ => pe9; rw [pe9])) | (rw [if_neg (by omega)])); (try dsimp only); (first | done | (rw [if_pos (by assumption)]) | (rw [if_neg (by assumption)])))))
    case rest =>
      rintro hP h6 tk6 m6 F6 N6 ⟨a1, a2, a3, a4, a5, a6, a7, -⟩
      have a8 : m6 (Str.ofString "weight") = some (.int (cccF c) _) := a7
      replace F6 := Fr.know (Fr.know (Fr.know (Fr.know (Fr.know (Fr.know (Fr.know F6 (x := Str.ofString "found") a1) (x := Str.ofString "starter") a2) (x := Str.ofString "most") a3) (x := Str.ofString "composer") a4) (x := Str.ofString "data") a5) (x := Str.ofString "code") a6) (x := Str.ofString "weight") a8
      clear a1 a2 a3 a4 a5 a6 a7 a8
      clear F5 N5
      (repeat' (first | (k_unfold; (try dsimp only)) | walk1 | (dsimp only; walk1) | (leave1; (try dsimp only))))
      all_goals (rename Fr _ _ _ _ => F7; rename News _ _ _ _ => N7; (try simp only [List.push_toArray] at N7); refine comp_end F7 N7 (by rw [hcst']; exact fun p hp => by first | exact hp | exact .tail _ hp) (by k_dflt rfl) (by k_dflt rfl) (by k_dflt rfl) (by k_dflt rfl) (by k_dflt rfl) hx hσ ?_ (ints_snoc i1) hoff; rw [cstep_rest hP]; first | (rw [if_pos (by assumption)]) | (rw [if_neg (by assumption)]))
  case done =>
    clear hfF hcst N0 D2
    rintro m₁ nx h tk ⟨vF, nF, s1, s2, m1, m2, m3, m4, m5, rfl, i1⟩ F1 N1
    rw [List.take_length] at i1
    dsimp only [envOf] at F1 N1
    k_sweep
    replace F1 := Fr.know F1 (x := Str.ofString "found") m1
    (repeat' (first | (k_unfold; (try dsimp only)) | walk1 | (dsimp only; walk1) | (leave1; (try dsimp only))))
    rename Fr _ _ _ _ => F7
    rename News _ _ _ _ => N7
    exact ret fF vF nF _ _ F7.keep (N7.fresh (.head _)) (N7.get (.head _)) i1

end
section
theorem off_form : True := by
  w_top off
  trivial
/-- nfc as a function -/
def nfcF (ns : List Int) : List Int := (cfold (nfdF ns)).1
theorem tab_led {g h h' : Heap} {L : Addr} {m : Str → Option Value} {ps ps' : Array Value} (F : Fr g L h' m) (N : News g L h [((112 : Nat), tabObj ps)]) (e : h'.get? 112 = some (tabObj ps')) (t : TabPs h' ps') :
    ∃ cx, News g L h' (((112 : Nat), tabObj ps') :: cx) ∧ TabN g cx ps' := by
  have n1 : ∀ p ∈ [((112 : Nat), tabObj ps')], h'.get? p.1 = some p.2 ∧ p.1 ≠ L ∧ g.get? p.1 = none := fun p hp => by
    rw [List.mem_singleton.mp hp]
    exact ⟨e, (N _ (.head _)).2⟩
  rcases t with q | ⟨c, oc, vs, t, q, l, m1, d, r⟩
  · exact ⟨[], n1, .inl q⟩
  · cases z : g.get? c with
    | some o =>
      have := F.keep _ _ z
      rw [m1] at this
      exact ⟨[], n1, .inr ⟨c, oc, vs, t, q, l, d, r, .inr (z.trans this.symm)⟩⟩
    | none =>
      refine ⟨[(c, oc)], fun p hp => ?_, .inr ⟨c, oc, vs, t, q, l, d, r, .inl (.head _)⟩⟩
      rcases List.mem_cons.mp hp with rfl | hp
      · exact n1 _ (.head _)
      · rw [List.mem_singleton.mp hp]
        refine ⟨m1, fun x => ?_, z⟩
        obtain ⟨oL, es, ep, hL, hd, _⟩ := F.ns
        have x' : L = c := x.symm
        rw [x', m1] at hL
        rw [← Option.some.inj hL, d] at hd
        exact nomatch hd
theorem news1 {g h h' : Heap} {L l : Addr} {m : Str → Option Value} {o : Obj} {news : List (Addr × Obj)} (F : Fr g L h m) (f : h.get? l = none) (e : h'.get? l = some o) (N : News g L h' news) : News g L h' ((l, o) :: news) := fun p hp => by
  rcases List.mem_cons.mp hp with rfl | hp
  · refine ⟨e, fun q => ?_, ?_⟩
    · obtain ⟨oL, _, _, hL, _⟩ := F.ns
      have e' : l = L := q
      rw [e', hL] at f
      cases f
    · cases q : g.get? l with
      | none => rfl
      | some o' => rw [F.keep _ _ q] at f; cases f
  · exact N p hp
theorem one112 {hs : Heap} {news : List (Addr × Obj)} {ps : Array Value} (p : Addr × Obj) (hp : p ∈ [((112 : Nat), tabObj ps)]) : p.1 = (112 : Nat) ∨ p ∈ news := .inl (by rw [List.mem_singleton.mp hp])
section
variable {w : World} {A : Around} {s : Shared} {Q E : Value → Shared → Prop} {l d : Addr} {vs : List Value} {n : Nat} {ns : List Int} {a : DP} {t : Tok}
theorem formd_call (H : HereT w A s.heap) (R : Room A 7) (D : DAt w s.heap d a) (hl : s.heap.get? l = some (listOf vs.toArray n)) (hi : IntsAre vs ns) (hc : ∀ x ∈ ns, x ∈ codes) (hlen : ns.length < 30) (ret : RetL s (nfdF ns) Q) :
    wpAny (model PR w) A (call (.ref 188) [.ref l, .ref d, .str (Str.ofString "nfd") t]) Q E s := by
  obtain ⟨ps, H, hps⟩ := H
  have hat := H.at
  have hX := H.inn
  have D' := fun g hg => D.monoC (off_of_cls (g := g) hg hat (fun p hp => by rw [List.mem_singleton.mp hp]))
  have hl' := fun g hg => off_of_cls (g := g) hg hat (fun p hp => by rw [List.mem_singleton.mp hp]) _ _ (by nofun) hl
  refine wpAny_call ?_
  k_dflt (refine' enterN ?enH26 ?enR26 ?en626 ?en726 ?en926 ?enB26 ?_ ?ec226 ?ec326 ?ec426 ?ec526; (case enH26 => assumption); (case enR26 => assumption); (case en626 => k_is); (case en726 => k_is); (case en926 => first | exact BindsTo.of_eq rfl | exact binds_K (by assumption) rfl (by k_is) rfl rfl rfl); (case ec526 => decide); (case enB26 => exact locs rfl); (case ec226 => exact rfl); (case ec326 => exact rfl); (case ec426 => exact rfl); k_whole; intro enq01 enq02 enq03 enq04 enq05 enq06 enq07 enq08 enq09 enq10 enq11 enq12 enq13 enq14 enq15 enq16 enq17 enq18 enq19 enq20 enq21 enq22 enq23 enq24 enq25 enq26 enq27 enq28 enq29 enq30 enq31 enq32 enq33; (try k_lt enq29); (try dsimp only); (try k_fold))
  clear H
  rename ∀ b o, s.heap.get? b = some o → _ => hg
  rename ∀ b o, _ → s.heap.get? b = some o => hs
  replace D := D' _ hg
  replace hl := hl' _ hg
  have hT := TabN.base hps hg
  clear D' hl' hX
  (repeat ((fail_if_success (with_reducible show wpAny _ _ (call (Value.ref 123) _) _ _ _)); walk1))
  rename Fr _ _ _ _ => F5
  rename News _ _ _ _ => N4
  have N5 : News _ _ _ [((112 : Nat), tabObj ps)] := fun p hp => N4 p (by rw [List.mem_singleton.mp hp]; k_mem)
  clear N4
  refine dec_call ⟨ps, HereN.mk F5 N5 (fun p hp => hp) (by k_asm) (by k_asm) (by k_asm) (by k_asm) rfl, hT.ps F5 N5 (fun p hp => absurd hp List.not_mem_nil)⟩ (Room.less (by assumption) (by decide)) (D.mono F5.keep) (F5.keep _ _ hl) hi hc hlen ?_
  intro l9 vs9 n9 h9 tk9 k9 T9 fr9 gl9 iv9
  have k0 := kpB_of hg hat F5 N5 (fun p hp => .inl (by rw [List.mem_singleton.mp hp]))
  have e0 := N5.get (.head _)
  have F6 := frB F5 N5 (.head _) k9
  obtain ⟨ps9, t1, t2⟩ := T9
  obtain ⟨cx, N6, hT9⟩ := tab_led F6 N5 t1 t2
  replace N6 := news1 F5 fr9 gl9 N6
  clear F5 N5
  have f9 := fresh_back k0 e0 fr9
  clear k9 k0 e0 fr9 gl9 t1 t2
  (repeat' (first | (k_unfold; (try dsimp only)) | walk1 | (dsimp only; walk1) | (leave1; (try dsimp only))))
  rename Fr _ _ _ _ => F7
  rename News _ _ _ _ => N7
  exact ret l9 vs9 n9 _ _ (kpB_of hg hat F7 N7 (fun p hp => .inl (by rw [List.mem_singleton.mp hp]))) ⟨ps9, N7.get (by k_mem), hT9.ps F7 N7 (fun p hp => by first | exact hp | exact .tail _ hp | exact .tail _ (.tail _ hp) | exact .tail _ (.tail _ (.tail _ hp)) | exact .tail _ (.tail _ (.tail _ (.tail _ hp))) | exact .tail _ (.tail _ (.tail _ (.tail _ (.tail _ hp)))) | exact .tail _ (.tail _ (.tail _ (.tail _ (.tail _ (.tail _ hp))))))⟩ f9 (N7.get (by k_mem)) iv9
theorem formc_call (H : HereT w A s.heap) (R : Room A 11) (D : DAt w s.heap d a) (hl : s.heap.get? l = some (listOf vs.toArray n)) (hi : IntsAre vs ns) (hc : ∀ x ∈ ns, x ∈ codes) (hlen : ns.length < 30) (ret : RetL s (nfcF ns) Q) :
    wpAny (model PR w) A (call (.ref 188) [.ref l, .ref d, .str (Str.ofString "nfc") t]) Q E s := by
  obtain ⟨ps, H, hps⟩ := H
  have hat := H.at
  have hX := H.inn
  have D' := fun g hg => D.monoC (off_of_cls (g := g) hg hat (fun p hp => by rw [List.mem_singleton.mp hp]))
  have hl' := fun g hg => off_of_cls (g := g) hg hat (fun p hp => by rw [List.mem_singleton.mp hp]) _ _ (by nofun) hl
  refine wpAny_call ?_
  k_dflt (refine' enterN ?enH27 ?enR27 ?en627 ?en727 ?en927 ?enB27 ?_ ?ec227 ?ec327 ?ec427 ?ec527; (case enH27 => assumption); (case enR27 => assumption); (case en627 => k_is); (case en727 => k_is); (case en927 => first | exact BindsTo.of_eq rfl | exact binds_K (by assumption) rfl (by k_is) rfl rfl rfl); (case ec527 => decide); (case enB27 => exact locs rfl); (case ec227 => exact rfl); (case ec327 => exact rfl); (case ec427 => exact rfl); k_whole; intro enq01 enq02 enq03 enq04 enq05 enq06 enq07 enq08 enq09 enq10 enq11 enq12 enq13 enq14 enq15 enq16 enq17 enq18 enq19 enq20 enq21 enq22 enq23 enq24 enq25 enq26 enq27 enq28 enq29 enq30 enq31 enq32 enq33; (try k_lt enq29); (try dsimp only); (try k_fold))
  clear H
  rename ∀ b o, s.heap.get? b = some o → _ => hg
  rename ∀ b o, _ → s.heap.get? b = some o => hs
  replace D := D' _ hg
  replace hl := hl' _ hg
  have hT := TabN.base hps hg
  clear D' hl' hX
  (repeat ((fail_if_success (with_reducible show wpAny _ _ (call (Value.ref 123) _) _ _ _)); walk1))
  rename Fr _ _ _ _ => F5
  rename News _ _ _ _ => N4
  have N5 : News _ _ _ [((112 : Nat), tabObj ps)] := fun p hp => N4 p (by rw [List.mem_singleton.mp hp]; k_mem)
  clear N4
  refine dec_call ⟨ps, HereN.mk F5 N5 (fun p hp => hp) (by k_asm) (by k_asm) (by k_asm) (by k_asm) rfl, hT.ps F5 N5 (fun p hp => absurd hp List.not_mem_nil)⟩ (Room.less (by assumption) (by decide)) (D.mono F5.keep) (F5.keep _ _ hl) hi hc hlen ?_
  intro l9 vs9 n9 h9 tk9 k9 T9 fr9 gl9 iv9
  have k0 := kpB_of hg hat F5 N5 (fun p hp => .inl (by rw [List.mem_singleton.mp hp]))
  have e0 := N5.get (.head _)
  have F6 := frB F5 N5 (.head _) k9
  obtain ⟨ps9, t1, t2⟩ := T9
  obtain ⟨cx, N6, hT9⟩ := tab_led F6 N5 t1 t2
  replace N6 := news1 F5 fr9 gl9 N6
  clear F5 N5
  (repeat ((fail_if_success (with_reducible show wpAny _ _ (call (Value.ref 180) _) _ _ _)); walk1))
  rename Fr _ _ _ _ => F7
  rename News _ _ _ _ => N7
  have hlen2 := nfdF_len ns
  refine comp_call (by ktr_rel) (Room.less (by assumption) (by decide)) (D.mono F7.keep) (N7.get (by k_mem)) iv9 (nfdF_codes hc) (by omega) ?_
  intro l8 vs8 n8 h8 tk8 k8 fr8 gl8 iv8
  have k1 := kpB_of hg hat F7 N7 (fun p hp => .inl (by rw [List.mem_singleton.mp hp]))
  have e1 := N7.get (a := (112 : Nat)) (o := tabObj ps9) (by k_mem)
  have tb : Tab h8 := ⟨ps9, k8 _ _ e1, (hT9.ps F7 N7 (fun p hp => by first | exact hp | exact .tail _ hp | exact .tail _ (.tail _ hp) | exact .tail _ (.tail _ (.tail _ hp)) | exact .tail _ (.tail _ (.tail _ (.tail _ hp))) | exact .tail _ (.tail _ (.tail _ (.tail _ (.tail _ hp)))) | exact .tail _ (.tail _ (.tail _ (.tail _ (.tail _ (.tail _ hp))))))).mono k8.b⟩
  (repeat' (first | (k_unfold; (try dsimp only)) | walk1 | (dsimp only; walk1) | (leave1; (try dsimp only))))
  exact ret l8 vs8 n8 h8 _ (k1.trans k8.b) tb (fresh_back k1 e1 fr8) gl8 iv8
end

end
section
theorem off_nf : True := by
  w_top off
  trivial
section
variable {w : World} {A : Around} {s : Shared} {Q E : Value → Shared → Prop} {l d : Addr} {vs : List Value} {n : Nat} {ns : List Int} {a : DP} {t : Tok}
theorem nfd_call (H : HereT w A s.heap) (R : Room A 8) (D : DAt w s.heap d a) (hl : s.heap.get? l = some (listOf vs.toArray n)) (hi : IntsAre vs ns) (hc : ∀ x ∈ ns, x ∈ codes) (hlen : ns.length < 30) (ret : RetL s (nfdF ns) Q) :
    wpAny (model PR w) A (call (.ref 195) [.ref l, .ref d]) Q E s := by
  obtain ⟨ps, H, hps⟩ := H
  have hat := H.at
  have D' := fun g hg => D.monoC (off_of_cls (g := g) hg hat (fun p hp => by rw [List.mem_singleton.mp hp]))
  have hl' := fun g hg => off_of_cls (g := g) hg hat (fun p hp => by rw [List.mem_singleton.mp hp]) _ _ (by nofun) hl
  refine wpAny_call ?_
  k_dflt (refine' enterN ?enH28 ?enR28 ?en628 ?en728 ?en928 ?enB28 ?_ ?ec228 ?ec328 ?ec428 ?ec528; (case enH28 => assumption); (case enR28 => assumption); (case en628 => k_is); (case en728 => k_is); (case en928 => first | exact BindsTo.of_eq rfl | exact binds_K (by assumption) rfl (by k_is) rfl rfl rfl); (case ec528 => decide); (case enB28 => exact locs rfl); (case ec228 => exact rfl); (case ec328 => exact rfl); (case ec428 => exact rfl); k_whole; intro enq01 enq02 enq03 enq04 enq05 enq06 enq07 enq08 enq09 enq10 enq11 enq12 enq13 enq14 enq15 enq16 enq17 enq18 enq19 enq20 enq21 enq22 enq23 enq24 enq25 enq26 enq27 enq28 enq29 enq30 enq31 enq32 enq33; (try k_lt enq29); (try dsimp only); (try k_fold))
  clear H
  rename ∀ b o, s.heap.get? b = some o → _ => hg
  rename ∀ b o, _ → s.heap.get? b = some o => hs
  replace D := D' _ hg
  replace hl := hl' _ hg
  have hT := TabN.base hps hg
  clear D' hl'
  (repeat ((fail_if_success (with_reducible show wpAny _ _ (call (Value.ref 188) _) _ _ _)); walk1))
  rename Fr _ _ _ _ => F5
  rename News _ _ _ _ => N5
  refine formd_call ⟨ps, HereN.mk F5 N5 (fun p hp => hp) (by k_asm) (by k_asm) (by k_asm) (by k_asm) rfl, hT.ps F5 N5 (fun p hp => absurd hp List.not_mem_nil)⟩ (Room.less (by assumption) (by decide)) (D.mono F5.keep) (F5.keep _ _ hl) hi hc hlen ?_
  intro l9 vs9 n9 h9 tk9 k9 T9 fr9 gl9 iv9
  have k0 := kpB_of hg hat F5 N5 (fun p hp => .inl (by rw [List.mem_singleton.mp hp]))
  have e0 := N5.get (.head _)
  (repeat' (first | (k_unfold; (try dsimp only)) | walk1 | (dsimp only; walk1) | (leave1; (try dsimp only))))
  exact ret l9 vs9 n9 h9 _ (k0.trans k9) T9 (fresh_back k0 e0 fr9) gl9 iv9
theorem nfc_call (H : HereT w A s.heap) (R : Room A 12) (D : DAt w s.heap d a) (hl : s.heap.get? l = some (listOf vs.toArray n)) (hi : IntsAre vs ns) (hc : ∀ x ∈ ns, x ∈ codes) (hlen : ns.length < 30) (ret : RetL s (nfcF ns) Q) :
    wpAny (model PR w) A (call (.ref 202) [.ref l, .ref d]) Q E s := by
  obtain ⟨ps, H, hps⟩ := H
  have hat := H.at
  have D' := fun g hg => D.monoC (off_of_cls (g := g) hg hat (fun p hp => by rw [List.mem_singleton.mp hp]))
  have hl' := fun g hg => off_of_cls (g := g) hg hat (fun p hp => by rw [List.mem_singleton.mp hp]) _ _ (by nofun) hl
  refine wpAny_call ?_
  k_dflt (refine' enterN ?enH29 ?enR29 ?en629 ?en729 ?en929 ?enB29 ?_ ?ec229 ?ec329 ?ec429 ?ec529; (case enH29 => assumption); (case enR29 => assumption); (case en629 => k_is); (case en729 => k_is); (case en929 => first | exact BindsTo.of_eq rfl | exact binds_K (by assumption) rfl (by k_is) rfl rfl rfl); (case ec529 => decide); (case enB29 => exact locs rfl); (case ec229 => exact rfl); (case ec329 => exact rfl); (case ec429 => exact rfl); k_whole; intro enq01 enq02 enq03 enq04 enq05 enq06 enq07 enq08 enq09 enq10 enq11 enq12 enq13 enq14 enq15 enq16 enq17 enq18 enq19 enq20 enq21 enq22 enq23 enq24 enq25 enq26 enq27 enq28 enq29 enq30 enq31 enq32 enq33; (try k_lt enq29); (try dsimp only); (try k_fold))
  clear H
  rename ∀ b o, s.heap.get? b = some o → _ => hg
  rename ∀ b o, _ → s.heap.get? b = some o => hs
  replace D := D' _ hg
  replace hl := hl' _ hg
  have hT := TabN.base hps hg
  clear D' hl'
  (repeat ((fail_if_success (with_reducible show wpAny _ _ (call (Value.ref 188) _) _ _ _)); walk1))
  rename Fr _ _ _ _ => F5
  rename News _ _ _ _ => N5
  refine formc_call ⟨ps, HereN.mk F5 N5 (fun p hp => hp) (by k_asm) (by k_asm) (by k_asm) (by k_asm) rfl, hT.ps F5 N5 (fun p hp => absurd hp List.not_mem_nil)⟩ (Room.less (by assumption) (by decide)) (D.mono F5.keep) (F5.keep _ _ hl) hi hc hlen ?_
  intro l9 vs9 n9 h9 tk9 k9 T9 fr9 gl9 iv9
  have k0 := kpB_of hg hat F5 N5 (fun p hp => .inl (by rw [List.mem_singleton.mp hp]))
  have e0 := N5.get (.head _)
  (repeat' (first | (k_unfold; (try dsimp only)) | walk1 | (dsimp only; walk1) | (leave1; (try dsimp only))))
  exact ret l9 vs9 n9 h9 _ (k0.trans k9) T9 (fresh_back k0 e0 fr9) gl9 iv9
end
def cfI (c : Int) : Int := if c = 69 then 101 else if c = 73 then 105 else if c = 201 then 233 else if c = 8544 then 8560 else c
theorem cfI_codes : ∀ x ∈ codes, cfI x ∈ codes := by decide
theorem cf_cases {w : World} {g : Heap} (X : (hd.heap_1 w.params).In g) (x : Int) : (cfV x = .none ∧ cfI x = x) ∨ ∃ k t n, cfV x = .ref k ∧ g.get? k = some (tupOf [.int (cfI x) t] n) := by
  unfold cfV cfI
  by_cases h1 : x = 69
  · subst h1; exact .inr ⟨349, _, _, rfl, X _ _ (by k_is)⟩
  by_cases h2 : x = 73
  · subst h2; exact .inr ⟨350, _, _, rfl, X _ _ (by k_is)⟩
  by_cases h3 : x = 201
  · subst h3; exact .inr ⟨351, _, _, rfl, X _ _ (by k_is)⟩
  by_cases h4 : x = 8544
  · subst h4; exact .inr ⟨348, _, _, rfl, X _ _ (by k_is)⟩
  exact .inl ⟨by simp [h1, h2, h3, h4], by simp [h1, h2, h3, h4]⟩

end
section
theorem off_exttup : True := by
  w_top off
  trivial
section
variable {prog : Program} {w : World} {A : Around} {E : Value → Shared → Prop} {s : Shared} {h₀ : Heap} {L D : Addr} {m : Str → Option Value} {news : List (Addr × Obj)}
/-- a list of the ledger takes in all of a tuple that is not empty -/
theorem ext_tup {its : Array Value} {n n2 : Nat} {b : Addr} {us : List Value} {Q : Value → Shared → Prop} (F : Fr h₀ L s.heap m) (N : News h₀ L s.heap news) (hb : s.heap.get? b = some (tupOf us n2)) (hne : us.length ≠ 0)
    (U : ∃ news', Upd D (listOf its n) (listOf (its.toList ++ us).toArray (n + 1)) news news' ∧ (∀ h', Fr h₀ L h' m → News h₀ L h' news' → Q .none { s with heap := h' })) (hz : its.size + us.length < 1000000) :
    wpAny (model prog w) A (call (.builtin "list.extend") [.ref D, .ref b]) Q E s := by
  have hs : sizeLine = 16777216 := by rw [sizeLine_eq]
  have hd : ¬(!its.isEmpty && Builtin.List.listTooLong (its.size + us.toArray.size)) = true := by
    unfold Builtin.List.listTooLong
    simp
    intro _
    omega
  obtain ⟨news', U', h⟩ := U
  obtain ⟨pre, post, rfl, rfl, a, c⟩ := U'.split
  have z := N (D, listOf its n) (List.mem_append.mpr (.inr (.head _)))
  refine call_meets PySem.F.slot_list_extend ⟨_, z.1, rfl⟩ PySem.F.entry_list_extend (PySem.F.args_list_extend_2 _ _) (PySem.AutoSeq1.list_extend_list_tuple_0 D its n b us.toArray n2 hd (by first | omega | (simp only [Array.length_toList]; omega)) (by simp only [List.size_toArray]; omega)) ⟨z.1, hb, h _ (F.change (Heap.SameBut.update ..) z.2.1 z.2.2) (kl_turn _ N a c ?_ ?_)⟩
  · apply Array.toList_inj.mp
    simp
  · simpa using fun e => hne (by rw [e]; rfl)
end

end
local macro_rules | `(tactic| walk_at "call builtin:list.extend") => `(tactic| ((with_reducible show wpAny _ _ (call (Value.builtin _) [Value.ref _, Value.ref _]) _ _ _); k_dflt (refine' ext_tup ?F ?N ?b ?ne ?U ?z; (case F => k_asm); (case N => k_asm); (case b => first | exact Fr.keep (by k_asm) _ _ (by with_reducible assumption) | exact News.get (by k_asm) (by k_mem)); (case ne => first | assumption | exact nofun); (case' U => ((refine' ⟨_, ?u, ?k⟩); (case u => k_upd); intro h' F' N'; k_sweep)); (case z => ((try refine size_any ?_); (try simp only [List.size_toArray, Array.length_toList, List.length_append, List.length_cons, List.length_nil, List.length_replicate, Array.size_push]); (first | omega | (k_extra "size")))))))
section
theorem off_cf : True := by
  w_top off
  trivial
theorem dget_cfE {w : World} {A : Around} {s : Shared} {Q E : Value → Shared → Prop} {d : Addr} {a : DP} {x : Int} {t u : Tok} {v : Value} (H : Here w A s.heap) (R : Room A 3) (D : DAt w s.heap d a) (hx : x ∈ codes) (hv : cfV x = v)
    (ret : ∀ h' tk', Kp s.heap h' → Q v { s with heap := h', toks := tk' }) :
    wpAny (model PR w) A (call (.ref 324) [.ref d, .str (Str.ofString "nfkc_cf") u, .int x t]) Q E s := by
  subst hv
  exact dget_cf H R D hx ret
def ncfF (ns : List Int) : List Int := nfcF (ns.map cfI)
def cfJ (d fF : Addr) (ps : Array Value) (ns : List Int) (i : Nat) (m : Str → Option Value) (nx : List (Addr × Obj)) : Prop :=
  ∃ (vF : List Value) (nF : Nat), m (Str.ofString "found") = some (.ref fF) ∧ m (Str.ofString "data") = some (.ref d) ∧ nx = [(fF, listOf vF.toArray nF), ((112 : Nat), tabObj ps)] ∧ IntsAre vF ((ns.take i).map cfI)
theorem cf_end {g h h2 : Heap} {L fF d : Addr} {m : Str → Option Value} {ns : List Int} {i : Nat} {x y : Int} {t : Tok} {vF : List Value} {n1 : Nat} {ps : Array Value} {own : List (Addr × Obj)} {gs : Array GenState} {dr : Drawn} {os : OsState} {tk tk2 : Nat}
    (F7 : Fr g L h m) (N7 : News g L h ((fF, listOf (vF ++ [Value.int y t]).toArray n1) :: ((112 : Nat), tabObj ps) :: own)) (m1 : m (Str.ofString "found") = some (.ref fF)) (m2 : m (Str.ofString "data") = some (.ref d))
    (hx : ns[i]? = some x) (i1 : IntsAre vF ((ns.take i).map cfI)) (hy : y = cfI x) (hoff : OwnOff own [fF, (112 : Nat)]) :
    InvEndG g L (cfJ d fF ps ns (i + 1)) own ⟨h2, gs, dr, tk2, os⟩ ⟨h, gs, dr, tk, os⟩ := by
  subst hy
  refine InvEndG.intro F7 N7 (nx := [(fF, listOf (vF ++ [Value.int (cfI x) t]).toArray n1), ((112 : Nat), tabObj ps)]) ⟨vF ++ [Value.int (cfI x) t], n1, m1, m2, rfl, ?_⟩ hoff (fun p hp => ?_) (fun p hp => .tail _ (.tail _ hp))
  · rw [take_snoc hx, List.map_append]; exact ints_snoc i1
  · rcases List.mem_cons.mp hp with rfl | hp
    · exact .head _
    · rw [List.mem_singleton.mp hp]; exact .tail _ (.head _)
theorem ncf_call {w : World} {A : Around} {s : Shared} {Q E : Value → Shared → Prop} {l d : Addr} {vs : List Value} {n : Nat} {ns : List Int} {a : DP}
    (H : HereT w A s.heap) (R : Room A 13) (D : DAt w s.heap d a) (hl : s.heap.get? l = some (listOf vs.toArray n)) (hi : IntsAre vs ns) (hc : ∀ x ∈ ns, x ∈ codes) (hlen : ns.length < 30) (ret : RetL s (ncfF ns) Q) :
    wpAny (model PR w) A (call (.ref 209) [.ref l, .ref d]) Q E s := by
  obtain ⟨ps, H, hps⟩ := H
  have hat := H.at
  have D' := fun g hg => D.monoC (off_of_cls (g := g) hg hat (fun p hp => by rw [List.mem_singleton.mp hp]))
  have hl' := fun g hg => off_of_cls (g := g) hg hat (fun p hp => by rw [List.mem_singleton.mp hp]) _ _ (by nofun) hl
  refine wpAny_call ?_
  k_dflt (refine' enterN ?enH30 ?enR30 ?en630 ?en730 ?en930 ?enB30 ?_ ?ec230 ?ec330 ?ec430 ?ec530; (case enH30 => assumption); (case enR30 => assumption); (case en630 => k_is); (case en730 => k_is); (case en930 => first | exact BindsTo.of_eq rfl | exact binds_K (by assumption) rfl (by k_is) rfl rfl rfl); (case ec530 => decide); (case enB30 => exact locs rfl); (case ec230 => exact rfl); (case ec330 => exact rfl); (case ec430 => exact rfl); k_whole; intro enq01 enq02 enq03 enq04 enq05 enq06 enq07 enq08 enq09 enq10 enq11 enq12 enq13 enq14 enq15 enq16 enq17 enq18 enq19 enq20 enq21 enq22 enq23 enq24 enq25 enq26 enq27 enq28 enq29 enq30 enq31 enq32 enq33; (try k_lt enq29); (try dsimp only); (try k_fold))
  clear H
  rename ∀ b o, s.heap.get? b = some o → _ => hg
  rename ∀ b o, _ → s.heap.get? b = some o => hs
  replace D := D' _ hg
  replace hl := isListOf (hl' _ hg)
  have hT := TabN.base hps hg
  clear D' hl'
  rename Frag.In _ _ => hX9
  (repeat ((fail_if_success (with_reducible show wpAny _ _ (exec (Stmt.For _ _ _ _ _) _) _ _ _)); walk1))
  ((rename Fr _ _ _ _ => lF'); (with_unfolding_all refine' For_invVF lF' ?fi1 ?fi2 ?_; (case fi1 => exact rfl); (case fi2 => exact rfl); k_whole))
  walk1
  rename News _ _ _ _ => N0
  obtain ⟨fF, hfF⟩ : ∃ fF, fF = News.a0 N0 := ⟨_, rfl⟩
  have q2 : @LT.lt Nat _ 112 fF := by rw [hfF]; dsimp only [News.a0]; (refine' ltRaw ?la ?lm; (case la => with_reducible assumption); (case lm => k_mem))
  refine iter_invG (cfJ d fF ps ns) rfl hl hi (by k_asm) N0 ?hj ?turn ?done
  case hj => subst hfF; exact ⟨[], 0, by k_dflt rfl, by k_dflt rfl, rfl, .nil⟩
  case turn =>
    clear hfF N0
    rintro i x t m₁ nx h tk own hx ⟨oI, hI⟩ hoff ⟨vF, nF, m1, m2, rfl, i1⟩ F1 N1
    have hxc := hc x (List.mem_of_getElem? hx)
    have i7 := i1.length
    rw [List.length_map] at i7
    have i9 : (ns.take i).length ≤ ns.length := by rw [List.length_take]; omega
    dsimp only [envOf, List.cons_append, List.nil_append, List.map] at F1 N1 hoff hI
    k_sweep
    replace F1 := Fr.know (Fr.know F1 (x := Str.ofString "found") (by k_dflt (exact m1))) (x := Str.ofString "data") (by k_dflt (exact m2))
    rcases cf_cases hX9 x with ⟨v9, y9⟩ | ⟨k9, t9, n9, v9, g9⟩
    · (repeat' (first | (k_unfold; (try dsimp only)) | ((with_reducible show wpAny _ _ (call (Value.ref 324) [_, Value.str (Str.ofString "nfkc_cf") _, _]) _ _ _); k_dflt (refine' dget_cfE (by ktr_rel) (by ktr_room) (by exact DAt.mono (by with_reducible assumption) (Fr.keep (by with_reducible assumption))) (by with_reducible assumption) (by with_reducible assumption) ?_); intro h9 tk9; tb_start) | walk1 | (dsimp only; walk1) | (leave1; (try dsimp only))))
      rename Fr _ _ _ _ => F7
      rename News _ _ _ _ => N7
      simp only [List.push_toArray] at N7
      exact cf_end F7 N7 (by k_dflt rfl) (by k_dflt rfl) hx i1 y9.symm hoff
    · (repeat' (first | (k_unfold; (try dsimp only)) | ((with_reducible show wpAny _ _ (call (Value.ref 324) [_, Value.str (Str.ofString "nfkc_cf") _, _]) _ _ _); k_dflt (refine' dget_cfE (by ktr_rel) (by ktr_room) (by exact DAt.mono (by with_reducible assumption) (Fr.keep (by with_reducible assumption))) (by with_reducible assumption) (by with_reducible assumption) ?_); intro h9 tk9; tb_start) | walk1 | (dsimp only; walk1) | (leave1; (try dsimp only))))
      rename Fr _ _ _ _ => F7
      rename News _ _ _ _ => N7
      exact cf_end F7 N7 (by k_dflt rfl) (by k_dflt rfl) hx i1 rfl hoff
  case done =>
    clear hfF N0
    rintro m₁ nx h tk ⟨vF, nF, m1, m2, rfl, i1⟩ F1 N1
    rw [List.take_length] at i1
    dsimp only [envOf] at F1 N1
    k_sweep
    replace F1 := Fr.know (Fr.know F1 (x := Str.ofString "found") m1) (x := Str.ofString "data") (by k_dflt (exact m2))
    (repeat ((fail_if_success (with_reducible show wpAny _ _ (call (Value.ref 202) _) _ _ _)); walk1))
    rename Fr _ _ _ _ => F5
    rename News _ _ _ _ => N5
    have hc2 : ∀ y ∈ ns.map cfI, y ∈ codes := fun y hy => by
      obtain ⟨z, hz, rfl⟩ := List.mem_map.mp hy
      exact cfI_codes z (hc z hz)
    refine nfc_call ⟨ps, HereN.mk F5 N5 (fun p hp => .tail _ hp) (by k_asm) (by k_asm) (by k_asm) (by k_asm) rfl, hT.ps F5 N5 (fun p hp => absurd hp List.not_mem_nil)⟩ (Room.less (by assumption) (by decide)) (D.mono F5.keep) (N5.get (.head _)) i1 hc2 (by rw [List.length_map]; exact hlen) ?_
    intro l9 vs9 n9 h9 tk9 k9 T9 fr9 gl9 iv9
    (repeat' (first | (k_unfold; (try dsimp only)) | ((with_reducible show wpAny _ _ (call (Value.ref 324) [_, Value.str (Str.ofString "nfkc_cf") _, _]) _ _ _); k_dflt (refine' dget_cfE (by ktr_rel) (by ktr_room) (by exact DAt.mono (by with_reducible assumption) (Fr.keep (by with_reducible assumption))) (by with_reducible assumption) (by with_reducible assumption) ?_); intro h9 tk9; tb_start) | walk1 | (dsimp only; walk1) | (leave1; (try dsimp only))))
    have k0 := kpB_of hg hat F5 N5 (fun p hp => .inl (by rw [List.mem_singleton.mp hp]))
    exact ret l9 vs9 n9 h9 _ (k0.trans k9) T9 (fresh_back k0 (N5.get (.tail _ (.head _))) fr9) gl9 iv9

end
section
theorem off_cs : True := by
  w_top off
  trivial
def caF (ns : List Int) : List Int := ncfF (nfdF ns)
section
variable {w : World} {A : Around} {s : Shared} {Q E : Value → Shared → Prop} {l d : Addr} {vs : List Value} {n : Nat} {ns : List Int} {a : DP} {t : Tok}
theorem cs_call (H : HereT w A s.heap) (R : Room A 14) (D : DAt w s.heap d a) (hl : s.heap.get? l = some (listOf vs.toArray n)) (hi : IntsAre vs ns) (hc : ∀ x ∈ ns, x ∈ codes) (hlen : ns.length < 15) (ret : RetL s (caF ns) Q) :
    wpAny (model PR w) A (call (.ref 216) [.ref l, .ref d]) Q E s := by
  obtain ⟨ps, H, hps⟩ := H
  have hat := H.at
  have D' := fun g hg => D.monoC (off_of_cls (g := g) hg hat (fun p hp => by rw [List.mem_singleton.mp hp]))
  have hl' := fun g hg => off_of_cls (g := g) hg hat (fun p hp => by rw [List.mem_singleton.mp hp]) _ _ (by nofun) hl
  refine wpAny_call ?_
  k_dflt (refine' enterN ?enH31 ?enR31 ?en631 ?en731 ?en931 ?enB31 ?_ ?ec231 ?ec331 ?ec431 ?ec531; (case enH31 => assumption); (case enR31 => assumption); (case en631 => k_is); (case en731 => k_is); (case en931 => first | exact BindsTo.of_eq rfl | exact binds_K (by assumption) rfl (by k_is) rfl rfl rfl); (case ec531 => decide); (case enB31 => exact locs rfl); (case ec231 => exact rfl); (case ec331 => exact rfl); (case ec431 => exact rfl); k_whole; intro enq01 enq02 enq03 enq04 enq05 enq06 enq07 enq08 enq09 enq10 enq11 enq12 enq13 enq14 enq15 enq16 enq17 enq18 enq19 enq20 enq21 enq22 enq23 enq24 enq25 enq26 enq27 enq28 enq29 enq30 enq31 enq32 enq33; (try k_lt enq29); (try dsimp only); (try k_fold))
  clear H
  rename ∀ b o, s.heap.get? b = some o → _ => hg
  rename ∀ b o, _ → s.heap.get? b = some o => hs
  replace D := D' _ hg
  replace hl := hl' _ hg
  have hT := TabN.base hps hg
  clear D' hl'
  (repeat ((fail_if_success (with_reducible show wpAny _ _ (call (Value.ref 195) _) _ _ _)); walk1))
  rename Fr _ _ _ _ => F5
  rename News _ _ _ _ => N5
  have hlen2 := nfdF_len ns
  refine nfd_call ⟨ps, HereN.mk F5 N5 (fun p hp => hp) (by k_asm) (by k_asm) (by k_asm) (by k_asm) rfl, hT.ps F5 N5 (fun p hp => absurd hp List.not_mem_nil)⟩ (Room.less (by assumption) (by decide)) (D.mono F5.keep) (F5.keep _ _ hl) hi hc (by omega) ?_
  intro l9 vs9 n9 h9 tk9 k9 T9 fr9 gl9 iv9
  have F6 := frB F5 N5 (.head _) k9
  obtain ⟨ps9, t1, t2⟩ := T9
  obtain ⟨cx, N6, hT9⟩ := tab_led F6 N5 t1 t2
  replace N6 := news1 F5 fr9 gl9 N6
  clear F5 N5 k9 fr9 gl9 t1 t2
  (repeat ((fail_if_success (with_reducible show wpAny _ _ (call (Value.ref 209) _) _ _ _)); walk1))
  rename Fr _ _ _ _ => F7
  rename News _ _ _ _ => N7
  refine ncf_call ⟨ps9, HereN.mk F7 N7 (fun p hp => by rw [List.mem_singleton.mp hp]; k_mem) (by k_asm) (by k_asm) (by k_asm) (by k_asm) rfl, hT9.ps F7 N7 (fun p hp => by first | exact hp | exact .tail _ hp | exact .tail _ (.tail _ hp) | exact .tail _ (.tail _ (.tail _ hp)) | exact .tail _ (.tail _ (.tail _ (.tail _ hp))) | exact .tail _ (.tail _ (.tail _ (.tail _ (.tail _ hp)))) | exact .tail _ (.tail _ (.tail _ (.tail _ (.tail _ (.tail _ hp))))))⟩ (Room.less (by assumption) (by decide)) (D.mono F7.keep) (N7.get (by k_mem)) iv9 (nfdF_codes hc) (by omega) ?_
  intro l8 vs8 n8 h8 tk8 k8 T8 fr8 gl8 iv8
  have k1 := kpB_of hg hat F7 N7 (fun p hp => .inl (by rw [List.mem_singleton.mp hp]))
  have e1 := N7.get (a := (112 : Nat)) (o := tabObj ps9) (by k_mem)
  (repeat' (first | (k_unfold; (try dsimp only)) | walk1 | (dsimp only; walk1) | (leave1; (try dsimp only))))
  exact ret l8 vs8 n8 h8 _ (k1.trans k8) T8 (fresh_back k1 e1 fr8) gl8 iv8
end

end
section
theorem off_mt : True := by
  w_top off
  trivial
section
variable {w : World} {A : Around} {s : Shared} {Q E : Value → Shared → Prop} {l d l2 : Addr} {vs vs2 : List Value} {n n2 : Nat} {ns ns2 : List Int} {a : DP} {t : Tok}
theorem mt_call (H : HereT w A s.heap) (R : Room A 15) (D : DAt w s.heap d a) (hl : s.heap.get? l = some (listOf vs.toArray n)) (hi : IntsAre vs ns) (hc : ∀ x ∈ ns, x ∈ codes) (hlen : ns.length < 15)
    (hl2 : s.heap.get? l2 = some (listOf vs2.toArray n2)) (hi2 : IntsAre vs2 ns2) (hc2 : ∀ x ∈ ns2, x ∈ codes) (hlen2 : ns2.length < 15)
    (ret : ∀ h' tk', KpB s.heap h' → Tab h' → Q (.bool (decide (caF ns = caF ns2))) { s with heap := h', toks := tk' }) :
    wpAny (model PR w) A (call (.ref 223) [.ref l, .ref l2, .ref d]) Q E s := by
  obtain ⟨ps, H, hps⟩ := H
  have hat := H.at
  have D' := fun g hg => D.monoC (off_of_cls (g := g) hg hat (fun p hp => by rw [List.mem_singleton.mp hp]))
  have hl' := fun g hg => off_of_cls (g := g) hg hat (fun p hp => by rw [List.mem_singleton.mp hp]) _ _ (by nofun) hl
  have hl2' := fun g hg => off_of_cls (g := g) hg hat (fun p hp => by rw [List.mem_singleton.mp hp]) _ _ (by nofun) hl2
  refine wpAny_call ?_
  k_dflt (refine' enterN ?enH32 ?enR32 ?en632 ?en732 ?en932 ?enB32 ?_ ?ec232 ?ec332 ?ec432 ?ec532; (case enH32 => assumption); (case enR32 => assumption); (case en632 => k_is); (case en732 => k_is); (case en932 => first | exact BindsTo.of_eq rfl | exact binds_K (by assumption) rfl (by k_is) rfl rfl rfl); (case ec532 => decide); (case enB32 => exact locs rfl); (case ec232 => exact rfl); (case ec332 => exact rfl); (case ec432 => exact rfl); k_whole; intro enq01 enq02 enq03 enq04 enq05 enq06 enq07 enq08 enq09 enq10 enq11 enq12 enq13 enq14 enq15 enq16 enq17 enq18 enq19 enq20 enq21 enq22 enq23 enq24 enq25 enq26 enq27 enq28 enq29 enq30 enq31 enq32 enq33; (try k_lt enq29); (try dsimp only); (try k_fold))
  clear H
  rename ∀ b o, s.heap.get? b = some o → _ => hg
  rename ∀ b o, _ → s.heap.get? b = some o => hs
  replace D := D' _ hg
  replace hl := hl' _ hg
  replace hl2 := hl2' _ hg
  have hT := TabN.base hps hg
  clear D' hl' hl2'
  (repeat ((fail_if_success (with_reducible show wpAny _ _ (call (Value.ref 216) _) _ _ _)); walk1))
  rename Fr _ _ _ _ => F5
  rename News _ _ _ _ => N5
  refine cs_call ⟨ps, HereN.mk F5 N5 (fun p hp => hp) (by k_asm) (by k_asm) (by k_asm) (by k_asm) rfl, hT.ps F5 N5 (fun p hp => absurd hp List.not_mem_nil)⟩ (Room.less (by assumption) (by decide)) (D.mono F5.keep) (F5.keep _ _ hl) hi hc hlen ?_
  intro l9 vs9 n9 h9 tk9 k9 T9 fr9 gl9 iv9
  have F6 := frB F5 N5 (.head _) k9
  obtain ⟨ps9, t1, t2⟩ := T9
  obtain ⟨cx, N6, hT9⟩ := tab_led F6 N5 t1 t2
  replace N6 := news1 F5 fr9 gl9 N6
  clear F5 N5 k9 fr9 gl9 t1 t2
  (repeat ((fail_if_success (with_reducible show wpAny _ _ (call (Value.ref 216) _) _ _ _)); walk1))
  rename Fr _ _ _ _ => F7
  rename News _ _ _ _ => N7
  refine cs_call ⟨ps9, HereN.mk F7 N7 (fun p hp => by rw [List.mem_singleton.mp hp]; k_mem) (by k_asm) (by k_asm) (by k_asm) (by k_asm) rfl, hT9.ps F7 N7 (fun p hp => by first | exact hp | exact .tail _ hp | exact .tail _ (.tail _ hp) | exact .tail _ (.tail _ (.tail _ hp)) | exact .tail _ (.tail _ (.tail _ (.tail _ hp))) | exact .tail _ (.tail _ (.tail _ (.tail _ (.tail _ hp)))) | exact .tail _ (.tail _ (.tail _ (.tail _ (.tail _ (.tail _ hp))))))⟩ (Room.less (by assumption) (by decide)) (D.mono F7.keep) (F7.keep _ _ hl2) hi2 hc2 hlen2 ?_
  intro l8 vs8 n8 h8 tk8 k8 T8 fr8 gl8 iv8
  have k1 := kpB_of hg hat F7 N7 (fun p hp => .inl (by rw [List.mem_singleton.mp hp]))
  have e1 := N7.get (a := (112 : Nat)) (o := tabObj ps9) (by k_mem)
  have g9 := (k8.c e1) _ _ (by nofun) (N7.get (a := l9) (o := listOf vs9.toArray n9) (by k_mem))
  repeat ((fail_if_success (with_reducible show wpAny _ _ (compareOp _ _ _) _ _ _)); walk1)
  refine ke_eq_ints (isListOf g9) (isListOf gl8) iv9 iv8 (Room.units (by assumption)) ?_
  (repeat' (first | (k_unfold; (try dsimp only)) | walk1 | (dsimp only; walk1) | (leave1; (try dsimp only))))
  exact ret h8 _ (k1.trans k8) T8
theorem ch_call (H : HereT w A s.heap) (R : Room A 15) (D : DAt w s.heap d a) (hl : s.heap.get? l = some (listOf vs.toArray n)) (hi : IntsAre vs ns) (hc : ∀ x ∈ ns, x ∈ codes) (hlen : ns.length < 30)
    (ret : ∀ h' tk', KpB s.heap h' → Tab h' → Q (.bool (!decide (ncfF ns = ns))) { s with heap := h', toks := tk' }) :
    wpAny (model PR w) A (call (.ref 230) [.ref l, .ref d]) Q E s := by
  obtain ⟨ps, H, hps⟩ := H
  have hat := H.at
  have D' := fun g hg => D.monoC (off_of_cls (g := g) hg hat (fun p hp => by rw [List.mem_singleton.mp hp]))
  have hl' := fun g hg => off_of_cls (g := g) hg hat (fun p hp => by rw [List.mem_singleton.mp hp]) _ _ (by nofun) hl
  refine wpAny_call ?_
  k_dflt (refine' enterN ?enH33 ?enR33 ?en633 ?en733 ?en933 ?enB33 ?_ ?ec233 ?ec333 ?ec433 ?ec533; (case enH33 => assumption); (case enR33 => assumption); (case en633 => k_is); (case en733 => k_is); (case en933 => first | exact BindsTo.of_eq rfl | exact binds_K (by assumption) rfl (by k_is) rfl rfl rfl); (case ec533 => decide); (case enB33 => exact locs rfl); (case ec233 => exact rfl); (case ec333 => exact rfl); (case ec433 => exact rfl); k_whole; intro enq01 enq02 enq03 enq04 enq05 enq06 enq07 enq08 enq09 enq10 enq11 enq12 enq13 enq14 enq15 enq16 enq17 enq18 enq19 enq20 enq21 enq22 enq23 enq24 enq25 enq26 enq27 enq28 enq29 enq30 enq31 enq32 enq33; (try k_lt enq29); (try dsimp only); (try k_fold))
  clear H
  rename ∀ b o, s.heap.get? b = some o → _ => hg
  rename ∀ b o, _ → s.heap.get? b = some o => hs
  replace D := D' _ hg
  replace hl := hl' _ hg
  have hT := TabN.base hps hg
  clear D' hl'
  (repeat ((fail_if_success (with_reducible show wpAny _ _ (call (Value.ref 209) _) _ _ _)); walk1))
  rename Fr _ _ _ _ => F5
  rename News _ _ _ _ => N5
  refine ncf_call ⟨ps, HereN.mk F5 N5 (fun p hp => hp) (by k_asm) (by k_asm) (by k_asm) (by k_asm) rfl, hT.ps F5 N5 (fun p hp => absurd hp List.not_mem_nil)⟩ (Room.less (by assumption) (by decide)) (D.mono F5.keep) (F5.keep _ _ hl) hi hc hlen ?_
  intro l9 vs9 n9 h9 tk9 k9 T9 fr9 gl9 iv9
  have F6 := frB F5 N5 (.head _) k9
  obtain ⟨ps9, t1, t2⟩ := T9
  obtain ⟨cx, N6, hT9⟩ := tab_led F6 N5 t1 t2
  replace N6 := news1 F5 fr9 gl9 N6
  clear F5 N5 k9 fr9 gl9 t1 t2
  replace hl := isListOf hl
  (repeat' (first | (k_unfold; (try dsimp only)) | walk1 | (dsimp only; walk1) | (leave1; (try dsimp only))))
  rename Fr _ _ _ _ => F7
  rename News _ _ _ _ => N7
  exact ret _ _ (kpB_of hg hat F7 N7 (fun p hp => .inl (by rw [List.mem_singleton.mp hp]))) ⟨ps9, N7.get (by k_mem), hT9.ps F7 N7 (fun p hp => by first | exact hp | exact .tail _ hp | exact .tail _ (.tail _ hp) | exact .tail _ (.tail _ (.tail _ hp)) | exact .tail _ (.tail _ (.tail _ (.tail _ hp))) | exact .tail _ (.tail _ (.tail _ (.tail _ (.tail _ hp)))) | exact .tail _ (.tail _ (.tail _ (.tail _ (.tail _ (.tail _ hp))))))⟩
end

end
section
theorem off_lk : True := by
  w_top off
  trivial
theorem dK340 {w : World} {g : Heap} (X : (hd.heap_1 w.params).In g) : g.DictOf (intKind PR w) 340 [(233, .ref 341), (201, .ref 342)] := by
  refine ⟨_, _, _, X 340 _ (by k_is), ⟨rfl, rfl, rfl⟩, rfl, ?_, ?_, by decide⟩
  · intro e he
    simp only [List.mem_toArray, List.mem_cons, List.not_mem_nil, or_false] at he
    rcases he with rfl | rfl
    · exact ⟨233, intKind_is _ _ _ _, rfl⟩
    · exact ⟨201, intKind_is _ _ _ _, rfl⟩
  · exact .cons (intKind_is _ _ _ _) rfl (.cons (intKind_is _ _ _ _) rfl .nil)
theorem dK343 {w : World} {g : Heap} (X : (hd.heap_1 w.params).In g) : g.DictOf (intKind PR w) 343 [(64257, .ref 344), (8544, .ref 345), (8560, .ref 346)] := by
  refine ⟨_, _, _, X 343 _ (by k_is), ⟨rfl, rfl, rfl⟩, rfl, ?_, ?_, by decide⟩
  · intro e he
    simp only [List.mem_toArray, List.mem_cons, List.not_mem_nil, or_false] at he
    rcases he with rfl | rfl | rfl
    · exact ⟨64257, intKind_is _ _ _ _, rfl⟩
    · exact ⟨8544, intKind_is _ _ _ _, rfl⟩
    · exact ⟨8560, intKind_is _ _ _ _, rfl⟩
  · exact .cons (intKind_is _ _ _ _) rfl (.cons (intKind_is _ _ _ _) rfl (.cons (intKind_is _ _ _ _) rfl .nil))
theorem dK347 {w : World} {g : Heap} (X : (hd.heap_1 w.params).In g) : g.DictOf (intKind PR w) 347 [(8544, .ref 348), (69, .ref 349), (73, .ref 350), (201, .ref 351)] := by
  refine ⟨_, _, _, X 347 _ (by k_is), ⟨rfl, rfl, rfl⟩, rfl, ?_, ?_, by decide⟩
  · intro e he
    simp only [List.mem_toArray, List.mem_cons, List.not_mem_nil, or_false] at he
    rcases he with rfl | rfl | rfl | rfl
    · exact ⟨8544, intKind_is _ _ _ _, rfl⟩
    · exact ⟨69, intKind_is _ _ _ _, rfl⟩
    · exact ⟨73, intKind_is _ _ _ _, rfl⟩
    · exact ⟨201, intKind_is _ _ _ _, rfl⟩
  · exact .cons (intKind_is _ _ _ _) rfl (.cons (intKind_is _ _ _ _) rfl (.cons (intKind_is _ _ _ _) rfl (.cons (intKind_is _ _ _ _) rfl .nil)))

end
section
theorem off_by : True := by
  w_top off
  trivial
/-- what a table of tuples of ints answers at a code -/
def Told (h : Heap) (kvs : List (Int × Value)) (f : Int → List Int) (x : Int) : Prop :=
  (valueAt kvs x = none ∧ f x = [x]) ∨ ∃ k us n, valueAt kvs x = some (.ref k) ∧ h.get? k = some (tupOf us n) ∧ IntsAre us (f x) ∧ us.length ≠ 0 ∧ us.length ≤ 2
theorem Told.mono {h h' : Heap} {kvs : List (Int × Value)} {f : Int → List Int} {x : Int} (t : Told h kvs f x) (k : Kp h h') : Told h' kvs f x := by
  rcases t with t | ⟨q, us, n, a, b, c⟩
  · exact .inl t
  · exact .inr ⟨q, us, n, a, k _ _ b, c⟩
theorem hd_get2E {prog : Program} {w : World} {A : Around} {E : Value → Shared → Prop} {s : Shared} {d : Addr} {kvs : List (Int × Value)} {k : Int} {key v dflt : Value} {o : Option Value} {Q : Value → Shared → Prop} (D : s.heap.DictOf (intKind prog w) d kvs) (lo : (d == sysModules) = false) (hkey : (intKind prog w).is k key = true) (hl : valueAt kvs k = o) (he : o.getD dflt = v) (h : Q v { s with toks := s.toks + 1 }) :
    wpAny (model prog w) A (call (.builtin "dict.get") [.ref d, key, dflt]) Q E s := hd_get2 D lo hkey o hl (by rw [he]; exact h)
def byJ (tb fF : Addr) (f : Int → List Int) (ns : List Int) (i : Nat) (m : Str → Option Value) (nx : List (Addr × Obj)) : Prop :=
  ∃ (vF : List Value) (nF : Nat), m (Str.ofString "found") = some (.ref fF) ∧ m (Str.ofString "table") = some (.ref tb) ∧ nx = [(fF, listOf vF.toArray nF)] ∧ IntsAre vF ((ns.take i).flatMap f) ∧ vF.length ≤ 2 * i
theorem by_end {g h h2 : Heap} {L fF tb : Addr} {m : Str → Option Value} {f : Int → List Int} {ns : List Int} {i : Nat} {x : Int} {vF us : List Value} {n1 : Nat} {own all : List (Addr × Obj)} {gs : Array GenState} {dr : Drawn} {os : OsState} {tk tk2 : Nat}
    (F7 : Fr g L h m) (N7 : News g L h all) (hall : ∀ p ∈ (fF, listOf (vF ++ us).toArray n1) :: own, p ∈ all) (m1 : m (Str.ofString "found") = some (.ref fF)) (m2 : m (Str.ofString "table") = some (.ref tb))
    (hx : ns[i]? = some x) (i1 : IntsAre vF ((ns.take i).flatMap f)) (i2 : vF.length ≤ 2 * i) (hy : IntsAre us (f x)) (hz : us.length ≤ 2) (hoff : OwnOff own [fF]) :
    InvEndG g L (byJ tb fF f ns (i + 1)) own ⟨h2, gs, dr, tk2, os⟩ ⟨h, gs, dr, tk, os⟩ := by
  refine InvEndG.intro F7 N7 (nx := [(fF, listOf (vF ++ us).toArray n1)]) ⟨vF ++ us, n1, m1, m2, rfl, ?_, ?_⟩ hoff (fun p hp => hall p ?_) (fun p hp => hall p (.tail _ hp))
  · rw [take_snoc hx, List.flatMap_append, List.flatMap_cons, List.flatMap_nil, List.append_nil]; exact i1.append hy
  · rw [List.length_append]; omega
  · rw [List.mem_singleton.mp hp]; exact .head _
theorem lawby_call {w : World} {A : Around} {s : Shared} {Q E : Value → Shared → Prop} {l tb : Addr} {vs : List Value} {n : Nat} {ns : List Int} {kvs : List (Int × Value)} {f : Int → List Int}
    (H : Here w A s.heap) (R : Room A 1) (T : s.heap.DictOf (intKind PR w) tb kvs) (lo : (tb == sysModules) = false) (hl : s.heap.get? l = some (listOf vs.toArray n)) (hi : IntsAre vs ns) (hf : ∀ x ∈ ns, Told s.heap kvs f x) (hlen : ns.length < 100)
    (ret : ∀ (l : Addr) (vs : List Value) (n : Nat) (h' : Heap) (tk' : Nat), Kp s.heap h' → s.heap.get? l = none → h'.get? l = some (listOf vs.toArray n) → IntsAre vs (ns.flatMap f) → vs.length ≤ 2 * ns.length → Q (.ref l) { s with heap := h', toks := tk' }) :
    wpAny (model PR w) A (call (.ref 377) [.ref tb, .ref l]) Q E s := by
  have hL0 := isListOf hl
  refine wpAny_call ?_
  k_dflt (refine' enterP ?enH34 ?enR34 ?en634 ?en734 ?en934 ?enB34 ?_ ?ec234 ?ec334 ?ec434 ?ec534; (case enH34 => assumption); (case enR34 => assumption); (case en634 => k_is); (case en734 => k_is); (case en934 => first | exact BindsTo.of_eq rfl | exact binds_K (by assumption) rfl (by k_is) rfl rfl rfl); (case ec534 => decide); (case enB34 => exact locs rfl); (case ec234 => exact rfl); (case ec334 => exact rfl); (case ec434 => exact rfl); k_whole; intro enq01 enq02 enq03 enq04 enq05 enq06 enq07 enq08 enq09 enq10 enq11 enq12 enq13 enq14 enq15 enq16 enq17 enq18 enq19 enq20 enq21 enq22 enq23 enq24 enq25 enq26 enq27 enq28; (try dsimp only); (try k_fold))
  clear H
  (repeat ((fail_if_success (with_reducible show wpAny _ _ (exec (Stmt.For _ _ _ _ _) _) _ _ _)); walk1))
  ((rename Fr _ _ _ _ => lF'); (with_unfolding_all refine' For_invVF lF' ?fi1 ?fi2 ?_; (case fi1 => exact rfl); (case fi2 => exact rfl); k_whole))
  walk1
  rename News _ _ _ _ => N0
  obtain ⟨fF, hfF⟩ : ∃ fF, fF = News.a0 N0 := ⟨_, rfl⟩
  refine iter_invG (byJ tb fF f ns) rfl hL0 hi (by k_asm) N0 ?hj ?turn ?done
  case hj => subst hfF; exact ⟨[], 0, by k_dflt rfl, by k_dflt rfl, rfl, .nil, Nat.le_refl _⟩
  case turn =>
    clear hfF N0
    rintro i x t m₁ nx h tk own hx ⟨oI, hI⟩ hoff ⟨vF, nF, m1, m2, rfl, i1, i2⟩ F1 N1
    have hil : i < ns.length := (List.getElem?_eq_some_iff.mp hx).1
    dsimp only [envOf, List.cons_append, List.nil_append, List.map] at F1 N1 hoff hI
    k_sweep
    replace F1 := Fr.know (Fr.know F1 (x := Str.ofString "found") (by k_dflt (exact m1))) (x := Str.ofString "table") (by k_dflt (exact m2))
    rcases hf x (List.mem_of_getElem? hx) with ⟨v9, e9⟩ | ⟨k9, us9, n9, v9, g9, u9, w9, z9⟩
    · (repeat' (first | (k_unfold; (try dsimp only)) | ((with_reducible show wpAny _ _ (getMethod (Value.ref _) (Str.ofString "get") _) _ _ _); k_dflt (refine' hd_method (knd := intKind PR _) (by exact dictKeep (by with_reducible assumption) (Fr.keep (by with_reducible assumption))) ?_)) | ((with_reducible show wpAny _ _ (call (Value.builtin "dict.get") [Value.ref _, Value.int _ _, _]) _ _ _); k_dflt (refine' hd_get2E (by exact dictKeep (by with_reducible assumption) (Fr.keep (by with_reducible assumption))) (by assumption) (intKind_is _ _ _ _) (by with_reducible assumption) (by first | exact Option.getD_none | exact Option.getD_some) ?_)) | walk1 | (dsimp only; walk1) | (leave1; (try dsimp only))))
      rename Fr _ _ _ _ => F7
      rename News _ _ _ _ => N7
      exact by_end (us := [.int x t]) F7 N7 (fun p hp => .tail _ hp) (by k_dflt rfl) (by k_dflt rfl) hx i1 i2 (by rw [e9]; exact .cons _ _ .nil) (by simp) hoff
    · iterate 22 (first | ((with_reducible show wpAny _ _ (getMethod (Value.ref _) (Str.ofString "get") _) _ _ _); k_dflt (refine' hd_method (knd := intKind PR _) (by exact dictKeep (by with_reducible assumption) (Fr.keep (by with_reducible assumption))) ?_)) | ((with_reducible show wpAny _ _ (call (Value.builtin "dict.get") [Value.ref _, Value.int _ _, _]) _ _ _); k_dflt (refine' hd_get2E (by exact dictKeep (by with_reducible assumption) (Fr.keep (by with_reducible assumption))) (by assumption) (intKind_is _ _ _ _) (by with_reducible assumption) (by first | exact Option.getD_none | exact Option.getD_some) ?_)) | walk1)
      refine' ext_tup ?F ?N ?b ?ne ?U ?z
      case F => k_asm
      case N => k_asm
      case b => first | exact Fr.keep (by k_asm) _ _ (by with_reducible assumption) | exact News.get (by k_asm) (by k_mem)
      case ne => first | assumption | exact nofun
      case' U => refine' ⟨_, ?u, ?k⟩; (case u => k_upd); intro h' F' N'; k_sweep
      case z => ((try refine size_any ?_); (try simp only [List.size_toArray, Array.length_toList, List.length_append, List.length_cons, List.length_nil, List.length_replicate, Array.size_push]); (first | omega | (k_extra "size")))
      (repeat' (first | (k_unfold; (try dsimp only)) | ((with_reducible show wpAny _ _ (getMethod (Value.ref _) (Str.ofString "get") _) _ _ _); k_dflt (refine' hd_method (knd := intKind PR _) (by exact dictKeep (by with_reducible assumption) (Fr.keep (by with_reducible assumption))) ?_)) | ((with_reducible show wpAny _ _ (call (Value.builtin "dict.get") [Value.ref _, Value.int _ _, _]) _ _ _); k_dflt (refine' hd_get2E (by exact dictKeep (by with_reducible assumption) (Fr.keep (by with_reducible assumption))) (by assumption) (intKind_is _ _ _ _) (by with_reducible assumption) (by first | exact Option.getD_none | exact Option.getD_some) ?_)) | walk1 | (dsimp only; walk1) | (leave1; (try dsimp only))))
      rename Fr _ _ _ _ => F7
      rename News _ _ _ _ => N7
      exact by_end F7 N7 (fun p hp => .tail _ hp) (by k_dflt rfl) (by k_dflt rfl) hx i1 i2 u9 z9 hoff
  case done =>
    clear hfF N0
    rintro m₁ nx h tk ⟨vF, nF, m1, m2, rfl, i1, i2⟩ F1 N1
    rw [List.take_length] at i1
    dsimp only [envOf] at F1 N1
    k_sweep
    replace F1 := Fr.know F1 (x := Str.ofString "found") m1
    (repeat' (first | (k_unfold; (try dsimp only)) | ((with_reducible show wpAny _ _ (getMethod (Value.ref _) (Str.ofString "get") _) _ _ _); k_dflt (refine' hd_method (knd := intKind PR _) (by exact dictKeep (by with_reducible assumption) (Fr.keep (by with_reducible assumption))) ?_)) | ((with_reducible show wpAny _ _ (call (Value.builtin "dict.get") [Value.ref _, Value.int _ _, _]) _ _ _); k_dflt (refine' hd_get2E (by exact dictKeep (by with_reducible assumption) (Fr.keep (by with_reducible assumption))) (by assumption) (intKind_is _ _ _ _) (by with_reducible assumption) (by first | exact Option.getD_none | exact Option.getD_some) ?_)) | walk1 | (dsimp only; walk1) | (leave1; (try dsimp only))))
    rename Fr _ _ _ _ => F7
    rename News _ _ _ _ => N7
    exact ret fF vF nF _ _ F7.keep (N7.fresh (.head _)) (N7.get (.head _)) i1 i2

end
section
theorem off_pure : True := by
  w_top off
  trivial
def lcstep (fs : List Int) (c : Int) : List Int :=
  if c = 769 ∧ fs.getLast? = some 101 then fs.dropLast ++ [233] else if c = 769 ∧ fs.getLast? = some 69 then fs.dropLast ++ [201] else fs ++ [c]
def CI (σ : List Int × Int × Int) : Prop :=
  (σ.1 = [] ∧ σ.2.1 = -1 ∧ σ.2.2 = -1) ∨ (∃ l x, σ.1 = l ++ [x] ∧ x ≠ 769 ∧ σ.2.1 = (l.length : Int) ∧ σ.2.2 = -1) ∨ (∃ l, σ.1 = l ++ [769] ∧ σ.2.1 < (l.length : Int) ∧ σ.2.2 = 230)
theorem cccF_ne {c : Int} (h : c ≠ 769) : cccF c = 0 := by unfold cccF; rw [if_neg h]
theorem pairI_ne {x c : Int} (h : c ≠ 769) : pairI x c = none := by unfold pairI; rw [if_neg h]
theorem cstep_ne {σ : List Int × Int × Int} {c : Int} (h : c ≠ 769) : cstep σ c = (σ.1 ++ [c], (σ.1.length : Int), -1) := by
  unfold cstep
  simp only [cccF_ne h, pairI_ne h, if_true]
  split <;> rfl
theorem lcstep_ne {fs : List Int} {c : Int} (h : c ≠ 769) : lcstep fs c = fs ++ [c] := by
  unfold lcstep
  rw [if_neg (fun x => h x.1), if_neg (fun x => h x.1)]
theorem ci_step {σ : List Int × Int × Int} {c : Int} (h : CI σ) : (cstep σ c).1 = lcstep σ.1 c ∧ CI (cstep σ c) := by
  by_cases hc : c = 769
  · subst hc
    obtain ⟨fs, st, mo⟩ := σ
    rcases h with ⟨e1, e2, e3⟩ | ⟨l, x, e1, hx, e2, e3⟩ | ⟨l, e1, e2, e3⟩
    · dsimp only at e1 e2 e3
      subst e1 e2 e3
      exact ⟨by decide, .inr (.inr ⟨[], by decide, by decide, by decide⟩)⟩
    · dsimp only at e1 e2 e3
      subst e1 e2 e3
      have g : (l ++ [x]).getD (l.length : Int).toNat 0 = x := by simp [List.getD]
      by_cases h1 : x = 69
      · subst h1
        have e : cstep (l ++ [69], (l.length : Int), -1) 769 = (l ++ [201], (l.length : Int), -1) := by
          unfold cstep
          simp only [g]
          rw [if_pos ⟨by omega, .inl (by simp)⟩]
          simp [pairI]
        rw [e]
        exact ⟨by simp [lcstep], .inr (.inl ⟨l, 201, rfl, by decide, rfl, rfl⟩)⟩
      · by_cases h2 : x = 101
        · subst h2
          have e : cstep (l ++ [101], (l.length : Int), -1) 769 = (l ++ [233], (l.length : Int), -1) := by
            unfold cstep
            simp only [g]
            rw [if_pos ⟨by omega, .inl (by simp)⟩]
            simp [pairI]
          rw [e]
          exact ⟨by simp [lcstep], .inr (.inl ⟨l, 233, rfl, by decide, rfl, rfl⟩)⟩
        · have e : cstep (l ++ [x], (l.length : Int), -1) 769 = (l ++ [x] ++ [769], (l.length : Int), 230) := by
            unfold cstep
            simp only [g]
            rw [if_pos ⟨by omega, .inl (by simp)⟩]
            simp [pairI, h1, h2, cccF]
          rw [e]
          exact ⟨by simp [lcstep, h1, h2], .inr (.inr ⟨l ++ [x], rfl, by simp; omega, rfl⟩)⟩
    · dsimp only at e1 e2 e3
      subst e1 e3
      have e : cstep (l ++ [769], st, 230) 769 = (l ++ [769] ++ [769], st, 230) := by
        unfold cstep
        rw [if_neg (by simp [cccF]; omega)]
        simp [cccF]
      rw [e]
      exact ⟨by simp [lcstep], .inr (.inr ⟨l ++ [769], rfl, by simp; omega, rfl⟩)⟩
  · rw [cstep_ne hc, lcstep_ne hc]
    exact ⟨rfl, .inr (.inl ⟨σ.1, c, rfl, hc, rfl, rfl⟩)⟩
theorem cfold_lc (ys : List Int) : (cfold ys).1 = ys.foldl lcstep [] := by
  have key : ∀ (ys : List Int) (σ : List Int × Int × Int), CI σ → (ys.foldl cstep σ).1 = ys.foldl lcstep σ.1 := by
    intro ys
    induction ys with
    | nil => exact fun _ _ => rfl
    | cons y r ih =>
      intro σ h
      obtain ⟨h1, h2⟩ := ci_step (c := y) h
      rw [List.foldl_cons, List.foldl_cons, ih _ h2, h1]
  exact key ys _ (.inl ⟨rfl, rfl, rfl⟩)

end
section
theorem off_lc : True := by
  w_top off
  trivial
def lawC (ns : List Int) : List Int := (nfdF ns).foldl lcstep []
theorem lawC_eq (ns : List Int) : nfcF ns = lawC ns := cfold_lc _
theorem told340 {w : World} {g : Heap} (X : (hd.heap_1 w.params).In g) (x : Int) : Told g [(233, .ref 341), (201, .ref 342)] expF x := by
  unfold Told expF
  by_cases h1 : x = 201
  · subst h1; exact .inr ⟨342, _, _, rfl, X _ _ (by k_is), .cons _ _ (.cons _ _ .nil), by decide, by decide⟩
  by_cases h2 : x = 233
  · subst h2; exact .inr ⟨341, _, _, rfl, X _ _ (by k_is), .cons _ _ (.cons _ _ .nil), by decide, by decide⟩
  refine .inl ⟨?_, by simp [h1, h2]⟩
  have e1 : ¬ (233 : Int) = x := fun e => h2 e.symm
  have e2 : ¬ (201 : Int) = x := fun e => h1 e.symm
  simp [valueAt, e1, e2]
def wideF (c : Int) : List Int := if c = 64257 then [102, 105] else if c = 8544 then [73] else if c = 8560 then [105] else [c]
theorem told343 {w : World} {g : Heap} (X : (hd.heap_1 w.params).In g) (x : Int) : Told g [(64257, .ref 344), (8544, .ref 345), (8560, .ref 346)] wideF x := by
  unfold Told wideF
  by_cases h1 : x = 64257
  · subst h1; exact .inr ⟨344, _, _, rfl, X _ _ (by k_is), .cons _ _ (.cons _ _ .nil), by decide, by decide⟩
  by_cases h2 : x = 8544
  · subst h2; exact .inr ⟨345, _, _, rfl, X _ _ (by k_is), .cons _ _ .nil, by decide, by decide⟩
  by_cases h3 : x = 8560
  · subst h3; exact .inr ⟨346, _, _, rfl, X _ _ (by k_is), .cons _ _ .nil, by decide, by decide⟩
  refine .inl ⟨?_, by simp [h1, h2, h3]⟩
  have e1 : ¬ (64257 : Int) = x := fun e => h1 e.symm
  have e2 : ¬ (8544 : Int) = x := fun e => h2 e.symm
  have e3 : ¬ (8560 : Int) = x := fun e => h3 e.symm
  simp [valueAt, e1, e2, e3]
theorem told347 {w : World} {g : Heap} (X : (hd.heap_1 w.params).In g) (x : Int) : Told g [(8544, .ref 348), (69, .ref 349), (73, .ref 350), (201, .ref 351)] (fun c => [cfI c]) x := by
  unfold Told cfI
  by_cases h1 : x = 69
  · subst h1; exact .inr ⟨349, _, _, rfl, X _ _ (by k_is), .cons _ _ .nil, by decide, by decide⟩
  by_cases h2 : x = 73
  · subst h2; exact .inr ⟨350, _, _, rfl, X _ _ (by k_is), .cons _ _ .nil, by decide, by decide⟩
  by_cases h3 : x = 201
  · subst h3; exact .inr ⟨351, _, _, rfl, X _ _ (by k_is), .cons _ _ .nil, by decide, by decide⟩
  by_cases h4 : x = 8544
  · subst h4; exact .inr ⟨348, _, _, rfl, X _ _ (by k_is), .cons _ _ .nil, by decide, by decide⟩
  refine .inl ⟨?_, by simp [h1, h2, h3, h4]⟩
  have e1 : ¬ (69 : Int) = x := fun e => h1 e.symm
  have e2 : ¬ (73 : Int) = x := fun e => h2 e.symm
  have e3 : ¬ (201 : Int) = x := fun e => h3 e.symm
  have e4 : ¬ (8544 : Int) = x := fun e => h4 e.symm
  simp [valueAt, e1, e2, e3, e4]

end
section
theorem off_dd : True := by
  w_top off
  trivial
/-- a dict with str keys: at most n entries; what it answers at the four names that matter -/
structure SD (w : World) (o : Obj) (n : Nat) (e c d f : Option Value) : Prop where
  ex : ∃ kvs, o.IsDictOf (PySem.strKind PR w) kvs ∧ kvs.length ≤ n ∧ valueAt kvs (Str.ofString "ex") = e ∧ valueAt kvs (Str.ofString "ccc") = c ∧ valueAt kvs (Str.ofString "dm") = d ∧ valueAt kvs (Str.ofString "nfkc_cf") = f
theorem stored_len {kvs : List (Str × Value)} {k : Str} {v : Value} : (stored kvs k v).length ≤ kvs.length + 1 := by
  unfold stored
  split
  · simp
  · simp
theorem valueAt_stored {K : Type} [DecidableEq K] (kvs : List (K × Value)) (k : K) (v : Value) (j : K) : valueAt (stored kvs k v) j = if j = k then some v else valueAt kvs j := by
  unfold stored
  by_cases h : kvs.any (fun kv => kv.1 = k) = true
  · rw [if_pos h]
    induction kvs with
    | nil => simp at h
    | cons x r ih =>
      rw [List.map_cons]
      by_cases hx : x.1 = k
      · by_cases hj : j = k
        · subst hj; simp [valueAt, hx]
        · have hj' : ¬ k = j := fun e => hj e.symm
          have rest : valueAt (r.map fun kv => if kv.1 = k then (kv.1, v) else kv) j = valueAt r j := by
            clear h ih
            induction r with
            | nil => rfl
            | cons y r ih =>
              simp only [valueAt] at ih
              by_cases hy : y.1 = k
              · simp only [valueAt, List.map_cons, hy, if_true, List.find?_cons, decide_eq_false hj']; exact ih
              · simp only [valueAt, List.map_cons, hy, if_false, List.find?_cons]
                by_cases hyj : y.1 = j
                · simp [hyj]
                · simp only [decide_eq_false hyj]; exact ih
          rw [if_neg hj]
          simp only [valueAt] at rest
          simp only [valueAt, hx, if_true, List.find?_cons, decide_eq_false hj']
          exact rest
      · have h' : r.any (fun kv => kv.1 = k) = true := by simpa [hx] using h
        have ih' := ih h'
        simp only [hx, if_false]
        simp only [valueAt, List.find?_cons] at ih' ⊢
        by_cases hj : x.1 = j
        · have : ¬ j = k := fun e => hx (hj.trans e)
          simp [hj, this]
        · simp only [decide_eq_false hj]; exact ih'
  · rw [if_neg h]
    simp only [valueAt, List.find?_append]
    by_cases hj : j = k
    · subst hj
      have : kvs.find? (fun kv => decide (kv.1 = j)) = none := by
        rw [List.find?_eq_none]
        intro x hx hq
        exact h (List.any_eq_true.mpr ⟨x, hx, hq⟩)
      simp [this]
    · have hj' : ¬ k = j := fun e => hj e.symm
      rw [if_neg hj]
      cases q : kvs.find? (fun kv => decide (kv.1 = j)) <;> simp [List.find?_cons, hj']
/-- a dict with str keys: at most n entries; what it answers -/
def SDf (w : World) (o : Obj) (n : Nat) (f : Str → Option Value) : Prop := ∃ kvs, o.IsDictOf (PySem.strKind PR w) kvs ∧ kvs.length ≤ n ∧ ∀ j, valueAt kvs j = f j
theorem sdf_set {w : World} {A : Around} {E : Value → Shared → Prop} {s : Shared} {h₀ : Heap} {L d : Addr} {m : Str → Option Value} {news : List (Addr × Obj)} {g : Obj → List (Addr × Obj)} {o : Obj} {n : Nat} {f : Str → Option Value} {key : Str} {t : Tok} {v : Value} {Q : Unit → Shared → Prop}
    (F : Fr h₀ L s.heap m) (N : News h₀ L s.heap news) (U : UpdF d o news g) (hd : SDf w o n f) (hn : n ≤ 1000)
    (h : ∀ h' o' tk', Fr h₀ L h' m → News h₀ L h' (g o') → SDf w o' (n + 1) (fun j => if j = key then some v else f j) → Q () { s with heap := h', toks := tk' }) : wpAny (model PR w) A (setItem (.ref d) (.str key t) v) Q E s := by
  obtain ⟨kvs, h1, h2, h3⟩ := hd
  refine kda_set (knd := PySem.strKind PR w) F N U h1 (strKind_is _ _ _ _) (by rw [sizeLine_eq]; omega) fun h' o' F' N' D' => h h' o' _ F' N' ⟨_, D', ?_, fun j => ?_⟩
  · have := stored_len (kvs := kvs) (k := key) (v := v)
    omega
  · rw [valueAt_stored, h3]
theorem SDf.of {w : World} {o : Obj} {kvs : List (Str × Value)} {n : Nat} {t : Tok} (d : o.IsDictOf (PySem.strKind PR w) kvs) (h : Nat.ble kvs.length n = true) (c : valueAt kvs (Str.ofString "ccc") = some (.int 0 t)) :
    ∃ f t, SDf w o n f ∧ f (Str.ofString "ccc") = some (.int 0 t) := ⟨_, t, ⟨_, d, Nat.le_of_ble_eq_true h, fun _ => rfl⟩, c⟩
local macro_rules | `(tactic| walk_at "setItem ref str") => `(tactic| ((with_reducible rename SDf _ _ _ _ => d9); k_dflt (refine' sdf_set ?F ?N ?U d9 ?z ?_; (case F => k_asm); (case N => k_asm); (case U => k_updF); (case z => first | assumption | omega)); clear d9; intro h' o' tk' F' N' D'; (try dsimp only at N'); k_sweep))
theorem SDf.sd {w : World} {o : Obj} {n : Nat} {f : Str → Option Value} {e c d k : Option Value} (h : SDf w o n f) (he : f (Str.ofString "ex") = e) (hc : f (Str.ofString "ccc") = c) (hd : f (Str.ofString "dm") = d) (hk : f (Str.ofString "nfkc_cf") = k) : SD w o n e c d k :=
  let ⟨kvs, h1, h2, h3⟩ := h; ⟨kvs, h1, h2, (h3 _).trans he, (h3 _).trans hc, (h3 _).trans hd, (h3 _).trans hk⟩
/-- one value under each of some names, turn by turn -/
theorem items_put {prog : Program} {w : World} {A : Around} {E : Value → Shared → Prop} {h₀ : Heap} {env : Env} {target : PySem.Expr} {body : List Stmt} {Q : Flow → Shared → Prop} {s : Shared} {ws : List (Addr × String)} {d : Addr} {kt : Addr × Obj} (V : Option Value → Prop)
    (turn : ∀ (k : Str) (t : Tok) (m : Str → Option Value) (o : Obj) (n : Nat) (f : Str → Option Value) (K : (Str → Option Value) → List (Addr × Obj) → Prop) (h : Heap) (tk : Nat), m (Str.ofString "found") = some (.ref d) → n ≤ 1000 → SDf w o n f →
      (∀ m' o' f', m' (Str.ofString "found") = some (.ref d) → SDf w o' (n + 1) f' → (∀ j, j ≠ k → f' j = f j) → V (f' k) → K m' [kt, (d, o')]) →
      Fr h₀ env.locals h m → AllObj ws (fun its => News h₀ env.locals h (its ++ [kt, (d, o)]) → wpAny (model prog w) A (assign target env (.str k t)) (fun _ s₂ => wpAny (model prog w) A (execs body env) (UnrPostW h₀ env.locals { s with heap := h, toks := tk } its (fun m' n' => SubL [kt] n' ∧ K m' n') Q) E s₂) E { s with heap := h, toks := tk }))
    : ∀ (vs : List (Str × Tok)) (m : Str → Option Value) (o : Obj) (n : Nat) (f : Str → Option Value), m (Str.ofString "found") = some (.ref d) → n + vs.length ≤ 1000 → SDf w o n f →
      (∀ m o f' h tk, m (Str.ofString "found") = some (.ref d) → SDf w o (n + vs.length) f' → (∀ j, j ∉ vs.map (·.1) → f' j = f j) → (∀ j, j ∈ vs.map (·.1) → V (f' j)) → Fr h₀ env.locals h m → News h₀ env.locals h [(d, o)] → Q .next { s with heap := h, toks := tk }) →
      ItemsRest prog w A E h₀ env target body Q s ws [kt] (vs.map fun p => Itm.val (.str p.1 p.2)) m [kt, (d, o)]
  | [], m, o, n, f, hm, hn, hd, fin => fun h tk F N => fin m o f h tk hm hd (fun _ _ => rfl) (fun j hj => absurd hj List.not_mem_nil) F (fun p hp => N p (.tail _ hp))
  | (k, t) :: vs, m, o, n, f, hm, hn, hd, fin => by
    refine ItemsRest.val fun h tk F => ?_
    have hn' : n + 1 + vs.length ≤ 1000 := by simp only [List.length_cons] at hn; omega
    refine turn k t m o n f (ItemsRest prog w A E h₀ env target body Q s ws [kt] (vs.map fun p => Itm.val (.str p.1 p.2))) h tk hm (by omega) hd (fun m' o' f' hm' hd' e1 e2 => ?_) F
    refine items_put V turn vs m' o' (n + 1) f' hm' hn' hd' fun m2 o2 f2 h2 tk2 hm2 hd2 q1 q2 F2 N2 => ?_
    refine fin m2 o2 f2 h2 tk2 hm2 (by rw [List.length_cons, Nat.add_comm vs.length 1, ← Nat.add_assoc]; exact hd2) (fun j hj => ?_) (fun j hj => ?_) F2 N2
    · rw [List.map_cons, List.mem_cons, not_or] at hj
      rw [q1 j hj.2, e1 j hj.1]
    · by_cases hv : j ∈ vs.map (·.1)
      · exact q2 j hv
      · rw [List.map_cons, List.mem_cons] at hj
        rcases hj with rfl | hj
        · rw [q1 _ hv]; exact e2
        · exact absurd hj hv
theorem gen_toks {M : Model} {A : Around} {α : Type} {t : Sem α} {Q : α → Shared → Prop} {E : Value → Shared → Prop} {hp : Heap} {gs : Array GenState} {dr : Drawn} {os : OsState} {k : Nat}
    (h : ∀ k, wpAny M A t Q E { heap := hp, gens := gs, drawn := dr, toks := k, os := os }) : wpAny M A t Q E { heap := hp, gens := gs, drawn := dr, toks := k, os := os } := h k
theorem items_zero {prog : Program} {w : World} {A : Around} {E : Value → Shared → Prop} {h₀ : Heap} {env : Env} {target : PySem.Expr} {body : List Stmt} {Q : Flow → Shared → Prop} {hp : Heap} {gs : Array GenState} {dr : Drawn} {os : OsState} {k : Nat} {ws : List (Addr × String)} {keep : List (Addr × Obj)} {f : Value → Itm} {m : Str → Option Value} {news : List (Addr × Obj)}
    (h : ∀ h tk, Fr h₀ env.locals h m → News h₀ env.locals h news → Q .next { heap := h, gens := gs, drawn := dr, toks := tk, os := os }) : ItemsRest prog w A E h₀ env target body Q { heap := hp, gens := gs, drawn := dr, toks := k, os := os } ws keep (List.map f []) m news := h
local macro_rules | `(tactic| walk_at "ItemsRest") => `(tactic| (with_reducible refine' items_zero ?_; intro h' tk' F' N'; (try dsimp only [envOf] at F' N'); k_sweep))
theorem For_tup {prog : Program} {w : World} {A : Around} {E : Value → Shared → Prop} {h₀ : Heap} {env : Env} {target : PySem.Expr} {elts : List PySem.Expr} {k0 : Nat} {pos pos2 : Pos} {body : List Stmt} {Q : Flow → Shared → Prop} {hp : Heap} {gs : Array GenState} {dr : Drawn} {os : OsState} {k : Nat} {m : Str → Option Value} (F : Fr h₀ env.locals hp m) (hE : PassesOwn (model prog w) A env E)
    (h : ∀ k, wpAny (model prog w) A (eval (.Tuple elts k0 pos2) env) (fun xv s₁ => wpAny (model prog w) A (pyIter xv) (fun it s₂ => TurnsAt prog w A h₀ env target body Q E it s₂) E s₁) E { heap := hp, gens := gs, drawn := dr, toks := k, os := os }) :
    wpAny (model prog w) A (exec (.For target (.Tuple elts k0 pos2) body [] pos) env) Q E { heap := hp, gens := gs, drawn := dr, toks := k, os := os } := by
  have h' := h k
  refine For_turns (m := m) (h₀ := h₀) ?_ h' (fun _ => rfl) hE
  exact F
local macro_rules | `(tactic| walk_at "exec For Name Tuple cons nil") => `(tactic| (with_reducible refine' For_tup ?F ?hE ?_; (case F => k_dflt assumption); (case hE => k_dflt passes_own); intro tk8))
abbrev ks1 : List Str := [Str.ofString "gcb", Str.ofString "wb", Str.ofString "sb"]
abbrev ks2 : List Str := [Str.ofString "ex", Str.ofString "sd", Str.ofString "cased", Str.ofString "ci", Str.ofString "ep", Str.ofString "di", Str.ofString "ids", Str.ofString "idc", Str.ofString "xids", Str.ofString "xidc", Str.ofString "pat_syn", Str.ofString "pat_ws", Str.ofString "idst"]
abbrev ks3 : List Str := [Str.ofString "dm", Str.ofString "uc", Str.ofString "lc", Str.ofString "tc", Str.ofString "cf", Str.ofString "bm", Str.ofString "bpb", Str.ofString "scx", Str.ofString "nt", Str.ofString "nv", Str.ofString "name", Str.ofString "conf", Str.ofString "nfkc_cf"]
abbrev ks4 : List Str := [Str.ofString "suc", Str.ofString "slc", Str.ofString "stc", Str.ofString "alias"]
theorem dd_call {w : World} {A : Around} {s : Shared} {Q E : Value → Shared → Prop} (H : Here w A s.heap) (R : Room A 1)
    (ret : ∀ l o n t h' tk', Kp s.heap h' → s.heap.get? l = none → h'.get? l = some o → (l == sysModules) = false → n ≤ 100 → SD w o n (some (.bool false)) (some (.int 0 t)) (some .none) (some .none) → Q (.ref l) { s with heap := h', toks := tk' }) :
    wpAny (model PR w) A (call (.ref 296) []) Q E s := by
  refine wpAny_call ?_
  k_dflt (refine' enterP ?enH35 ?enR35 ?en635 ?en735 ?en935 ?enB35 ?_ ?ec235 ?ec335 ?ec435 ?ec535; (case enH35 => assumption); (case enR35 => assumption); (case en635 => k_is); (case en735 => k_is); (case en935 => first | exact BindsTo.of_eq rfl | exact binds_K (by assumption) rfl (by k_is) rfl rfl rfl); (case ec535 => decide); (case enB35 => exact locs rfl); (case ec235 => exact rfl); (case ec335 => exact rfl); (case ec435 => exact rfl); k_whole; intro enq01 enq02 enq03 enq04 enq05 enq06 enq07 enq08 enq09 enq10 enq11 enq12 enq13 enq14 enq15 enq16 enq17 enq18 enq19 enq20 enq21 enq22 enq23 enq24 enq25 enq26 enq27 enq28; (try dsimp only); (try k_fold))
  clear H
  with_reducible refine' gen_toks ?_
  intro tk0
  iterate 30 ((first | k_unfold | walk1 | (dsimp only; walk1)); (try dsimp only))
  with_reducible rename Obj.IsDictOf _ _ _ => d0
  with_reducible rename PyProof.V.FlatPairs _ _ _ => f0
  clear f0
  obtain ⟨f0, t0, d1, q0⟩ := SDf.of (n := 8) d0 (by rfl) (by rfl)
  clear d0
  (repeat ((fail_if_success (with_reducible show ItemsRest _ _ _ _ _ _ _ _ _ _ _ _ _ _ _)); (first | walk1 | (dsimp only; walk1))))
  rename News _ _ _ _ => N1
  dsimp only
  refine items_put (fun _ => True) ?turn1 [(Str.ofString "gcb", _), (Str.ofString "wb", _), (Str.ofString "sb", _)] _ _ _ _ ?hm1 (Nat.le_of_ble_eq_true rfl) d1 ?fin1
  case hm1 => k_dflt rfl
  case turn1 =>
    clear N1 d1 ret
    intro k t m o n f K h tk hm hn hd hK F
    ktu_objs
    (try dsimp only [envOf] at F)
    replace F := Fr.know F (x := Str.ofString "found") hm
    (repeat' (first | (k_unfold; (try dsimp only)) | walk1 | (dsimp only; walk1) | (leave1; (try dsimp only))))
    rename SDf _ _ _ _ => D9
    refine hK _ _ _ ?_ D9 (fun j hj => if_neg hj) (by first | trivial | exact if_pos rfl)
    k_dflt rfl
  case fin1 =>
  clear N1
  intro m1 o1 f1 h1 tk1 hm1 d2 a1 b1 F1 N1
  replace d2 : SDf w o1 11 f1 := d2
  replace a1 : ∀ j, j ∉ ks1 → f1 j = f0 j := a1
  replace b1 : ∀ j, j ∈ ks1 → _ := b1
  (try dsimp only [envOf] at F1)
  replace F1 := Fr.know F1 (x := Str.ofString "found") hm1
  k_sweep
  (try dsimp only)
  (repeat ((fail_if_success (with_reducible show ItemsRest _ _ _ _ _ _ _ _ _ _ _ _ _ _ _)); (first | walk1 | (dsimp only; walk1))))
  rename News _ _ _ _ => N2
  dsimp only
  refine items_put (fun v => v = some (.bool false)) ?turn2 [(Str.ofString "ex", _), (Str.ofString "sd", _), (Str.ofString "cased", _), (Str.ofString "ci", _), (Str.ofString "ep", _), (Str.ofString "di", _), (Str.ofString "ids", _), (Str.ofString "idc", _), (Str.ofString "xids", _), (Str.ofString "xidc", _), (Str.ofString "pat_syn", _), (Str.ofString "pat_ws", _), (Str.ofString "idst", _)] _ _ _ _ ?hm2 (Nat.le_of_ble_eq_true rfl) d2 ?fin2
  case hm2 => k_dflt rfl
  case turn2 =>
    clear N2 d2 ret
    intro k t m o n f K h tk hm hn hd hK F
    ktu_objs
    (try dsimp only [envOf] at F)
    replace F := Fr.know F (x := Str.ofString "found") hm
    (repeat' (first | (k_unfold; (try dsimp only)) | walk1 | (dsimp only; walk1) | (leave1; (try dsimp only))))
    rename SDf _ _ _ _ => D9
    refine hK _ _ _ ?_ D9 (fun j hj => if_neg hj) (by first | trivial | exact if_pos rfl)
    k_dflt rfl
  case fin2 =>
  clear N2
  intro m2 o2 f2 h2 tk2 hm2 d3 a2 b2 F2 N2
  replace d3 : SDf w o2 24 f2 := d3
  replace a2 : ∀ j, j ∉ ks2 → f2 j = f1 j := a2
  replace b2 : ∀ j, j ∈ ks2 → _ := b2
  (try dsimp only [envOf] at F2)
  replace F2 := Fr.know F2 (x := Str.ofString "found") hm2
  k_sweep
  (try dsimp only)
  (repeat ((fail_if_success (with_reducible show ItemsRest _ _ _ _ _ _ _ _ _ _ _ _ _ _ _)); (first | walk1 | (dsimp only; walk1))))
  rename News _ _ _ _ => N3
  dsimp only
  refine items_put (fun v => v = some .none) ?turn3 [(Str.ofString "dm", _), (Str.ofString "uc", _), (Str.ofString "lc", _), (Str.ofString "tc", _), (Str.ofString "cf", _), (Str.ofString "bm", _), (Str.ofString "bpb", _), (Str.ofString "scx", _), (Str.ofString "nt", _), (Str.ofString "nv", _), (Str.ofString "name", _), (Str.ofString "conf", _), (Str.ofString "nfkc_cf", _)] _ _ _ _ ?hm3 (Nat.le_of_ble_eq_true rfl) d3 ?fin3
  case hm3 => k_dflt rfl
  case turn3 =>
    clear N3 d3 ret
    intro k t m o n f K h tk hm hn hd hK F
    ktu_objs
    (try dsimp only [envOf] at F)
    replace F := Fr.know F (x := Str.ofString "found") hm
    (repeat' (first | (k_unfold; (try dsimp only)) | walk1 | (dsimp only; walk1) | (leave1; (try dsimp only))))
    rename SDf _ _ _ _ => D9
    refine hK _ _ _ ?_ D9 (fun j hj => if_neg hj) (by first | trivial | exact if_pos rfl)
    k_dflt rfl
  case fin3 =>
  clear N3
  intro m3 o3 f3 h3 tk3 hm3 d4 a3 b3 F3 N3
  replace d4 : SDf w o3 37 f3 := d4
  replace a3 : ∀ j, j ∉ ks3 → f3 j = f2 j := a3
  replace b3 : ∀ j, j ∈ ks3 → _ := b3
  (try dsimp only [envOf] at F3)
  replace F3 := Fr.know F3 (x := Str.ofString "found") hm3
  k_sweep
  (try dsimp only)
  (repeat ((fail_if_success (with_reducible show ItemsRest _ _ _ _ _ _ _ _ _ _ _ _ _ _ _)); (first | walk1 | (dsimp only; walk1))))
  rename News _ _ _ _ => N4
  dsimp only
  refine items_put (fun _ => True) ?turn4 [(Str.ofString "suc", _), (Str.ofString "slc", _), (Str.ofString "stc", _), (Str.ofString "alias", _)] _ _ _ _ ?hm4 (Nat.le_of_ble_eq_true rfl) d4 ?fin4
  case hm4 => k_dflt rfl
  case turn4 =>
    clear N4 d4 ret
    intro k t m o n f K h tk hm hn hd hK F
    ktu_objs
    (try dsimp only [envOf] at F)
    replace F := Fr.know F (x := Str.ofString "found") hm
    (repeat ((fail_if_success (with_reducible show UnrEndW _ _ _ _ _ _)); (first | (k_unfold; (try dsimp only)) | walk1 | (dsimp only; walk1))))
    rename SDf _ _ _ _ => D9
    rename News _ _ _ _ => N9
    rename Fr _ _ _ _ => F9
    refine UnrEndW.intro F9 N9 [_, (_, _)] (by k_subL) (by k_subL) (by ktu_offL) ⟨by k_subL, hK _ _ _ ?_ D9 (fun j hj => if_neg hj) trivial⟩
    k_dflt rfl
  case fin4 =>
  clear N4
  intro m4 o4 f4 h4 tk4 hm4 d5 a4 b4 F4 N4
  replace d5 : SDf w o4 41 f4 := d5
  replace a4 : ∀ j, j ∉ ks4 → f4 j = f3 j := a4
  replace b4 : ∀ j, j ∈ ks4 → _ := b4
  (try dsimp only [envOf] at F4)
  replace F4 := Fr.know F4 (x := Str.ofString "found") hm4
  k_sweep
  (try dsimp only)
  (repeat' (first | (k_unfold; (try dsimp only)) | walk1 | (dsimp only; walk1) | (leave1; (try dsimp only))))
  rename Fr _ _ _ _ => F7
  rename News _ _ _ _ => N7
  rename SDf _ _ _ _ => D7
  have x3 : Str.ofString "ex" ∉ ks4 := by decide +kernel
  exact ret _ _ _ t0 _ _ F7.keep (N7.fresh (by k_mem)) (N7.get (by k_mem)) (by assumption) (by decide) (D7.sd
    ((if_neg (by decide)).trans ((a4 _ x3).trans ((a3 _ (by decide +kernel)).trans (b2 _ (by decide +kernel)))))
    ((if_neg (by decide)).trans ((a4 _ (by decide +kernel)).trans ((a3 _ (by decide +kernel)).trans ((a2 _ (by decide +kernel)).trans ((a1 _ (by decide +kernel)).trans q0)))))
    ((if_neg (by decide)).trans ((a4 _ (by decide +kernel)).trans (b3 _ (by decide +kernel))))
    ((if_neg (by decide)).trans ((a4 _ (by decide +kernel)).trans (b3 _ (by decide +kernel)))))

end
local macro_rules | `(tactic| walk_at "zz") => `(tactic| fail)
local macro_rules | `(tactic| walk_at "zz") => `(tactic| fail)
local macro_rules | `(tactic| walk_at "zz") => `(tactic| fail)
local macro_rules | `(tactic| walk_at "zz") => `(tactic| fail)
local macro_rules | `(tactic| walk_at "callWith ref") => `(tactic| k_dflt (refine' callWith_K ?k1 ?k2 ?_; (case k1 => k_asm); (case k2 => k_is); k_whole))
local macro_rules | `(tactic| walk_at "subscriptTail Attribute") => `(tactic| k_dflt (refine kba_turn (value' := PySem.Expr.Name (Str.ofString "_") ⟨0, 0, 0, 0⟩) (fun _ => rfl) ?_))
section
theorem off_put : True := by
  w_top off
  trivial
section
variable {prog : Program} {w : World} {A : Around} {E : Value → Shared → Prop} {s : Shared} {h₀ : Heap} {L l : Addr} {m : Str → Option Value} {news : List (Addr × Obj)} {value slice : PySem.Expr} {vs : List Value} {x : Int} {t : Tok} {Q : Value → Shared → Prop}
theorem sl_upto (F : Fr h₀ L s.heap m) (N : News h₀ L s.heap news) (hl : s.heap.IsList l vs.toArray) (hx : x = (vs.length : Int)) (hz : vs.length ≤ 1000)
    (h : ∀ D h', Fr h₀ L h' m → News h₀ L h' ((D, listOf vs.toArray 0) :: news) → (∀ p ∈ news, p.1 < D) → Q (.ref D) { s with heap := h' })
    (hs : subscripted slice false (.ref l) (.ref s.heap.objs.size) = operate [.ref s.heap.objs.size, .ref l] (getItem (.ref l) (.ref s.heap.objs.size))) (ht : ∀ r, letTemporaryGo value (.ref l) r = pure ()) :
    wpAny (model prog w) A (subscriptTail value slice (.ref l) (.ref s.heap.objs.size)) Q E { s with heap := s.heap.push { cls := .type "slice", data := .fields #[.none, .int x t, .none] } } := by
  refine kmk_slice_lit F N hl IsPart.none (IsPart.int _ _) ?_ h hs ht (by rw [sizeLine_eq, List.size_toArray]; omega)
  have e : sliceBounds none (some x) none vs.toArray.size = (((0 : Nat) : Int), ((vs.length : Nat) : Int), 1) := by
    subst hx
    simp only [sliceBounds, Option.getD_none, show (1 : Int) > 0 by decide, if_true, if_neg (show ¬ ((vs.length : Int) < 0) by omega), List.size_toArray]
    congr 1
    congr 1
    omega
  rw [kmk_pick_nat _ e]
  simp
theorem sl_from (F : Fr h₀ L s.heap m) (N : News h₀ L s.heap news) (hl : s.heap.IsList l vs.toArray) (hx : x = (vs.length : Int)) (hz : vs.length ≤ 1000)
    (h : ∀ D h', Fr h₀ L h' m → News h₀ L h' ((D, listOf [].toArray 0) :: news) → (∀ p ∈ news, p.1 < D) → Q (.ref D) { s with heap := h' })
    (hs : subscripted slice false (.ref l) (.ref s.heap.objs.size) = operate [.ref s.heap.objs.size, .ref l] (getItem (.ref l) (.ref s.heap.objs.size))) (ht : ∀ r, letTemporaryGo value (.ref l) r = pure ()) :
    wpAny (model prog w) A (subscriptTail value slice (.ref l) (.ref s.heap.objs.size)) Q E { s with heap := s.heap.push { cls := .type "slice", data := .fields #[.int x t, .none, .none] } } := by
  refine kmk_slice_lit F N hl (IsPart.int _ _) IsPart.none ?_ h hs ht (by rw [sizeLine_eq, List.size_toArray]; omega)
  have e : sliceBounds (some x) none none vs.toArray.size = (((vs.length : Nat) : Int), ((vs.length : Nat) : Int), 1) := by
    subst hx
    simp only [sliceBounds, Option.getD_none, show (1 : Int) > 0 by decide, if_true, if_neg (show ¬ ((vs.length : Int) < 0) by omega), List.size_toArray]
    congr 1
    omega
  rw [kmk_pick_nat _ e]
  simp
end
theorem pbh_callE {w : World} {A : Around} {s : Shared} {Q E : Value → Shared → Prop} {l : Addr} {vs : List Value} {ns : List Int} {x y : Int} {t : Tok}
    (H : Here w A s.heap) (R : Room A 1) (hl : s.heap.IsList l vs.toArray) (hi : IntsAre vs ns) (hlen : ns.length < 2 ^ 62) (he : pbh ns x = y)
    (ret : ∀ t h' tk', Kp s.heap h' → Q (.int y t) { s with heap := h', toks := tk' }) :
    wpAny (model PR w) A (call (.ref 61) [.ref l, .int x t]) Q E s := by
  subst he
  exact pbh_call H R hl hi hlen ret
/-- the two shapes at which range_are_like is asked while the data are made -/
def LikeNot (h : Heap) (a v : Value) : Prop := (∃ t u, a = .int 0 t ∧ v = .int 230 u) ∨ (a = .none ∧ ∃ k us n, v = .ref k ∧ h.get? k = some (tupOf us n))
theorem LikeNot.mono {h h' : Heap} {a v : Value} (l : LikeNot h a v) (k : Kp h h') : LikeNot h' a v := by
  rcases l with l | ⟨e, q, us, n, e2, g⟩
  · exact .inl l
  · exact .inr ⟨e, q, us, n, e2, k _ _ g⟩
theorem ral_not {w : World} {A : Around} {s : Shared} {Q E : Value → Shared → Prop} {a v : Value} (H : Here w A s.heap) (R : Room A 1) (l : LikeNot s.heap a v) (ret : ∀ h' tk', Kp s.heap h' → Q (.bool false) { s with heap := h', toks := tk' }) :
    wpAny (model PR w) A (call (.ref 235) [a, v]) Q E s := by
  rcases l with ⟨t, u, rfl, rfl⟩ | ⟨rfl, q, us, n, rfl, g⟩
  · exact ral_ii H R ret
  · exact ral_nt H R g ret
theorem get_off {h g : Heap} {news : List (Addr × Obj)} {b D : Addr} {o oD : Obj} (hg : ∀ b o, h.get? b = some o → b ∉ news.map (·.1) → g.get? b = some o) (hn : news = [(D, oD)]) (hD : h.get? D = some oD) (e : h.get? b = some o) (hne : o.data ≠ oD.data) : g.get? b = some o := by
  subst hn
  refine hg b o e fun hm => hne ?_
  have q : b = D := by simpa using hm
  rw [q, hD] at e
  rw [Option.some.inj e]
theorem LikeNot.off {h g : Heap} {news : List (Addr × Obj)} {a v : Value} {D : Addr} {es : List DictEntry} {n : Nat} (l : LikeNot h a v) (hg : ∀ b o, h.get? b = some o → b ∉ news.map (·.1) → g.get? b = some o) (hn : news = [(D, dictOf es n)]) (hD : h.get? D = some (dictOf es n)) : LikeNot g a v := by
  rcases l with l | ⟨e, q, us, m, e2, k⟩
  · exact .inl l
  · exact .inr ⟨e, q, us, m, e2, get_off hg hn hD k nofun⟩
theorem instMix {g h : Heap} {L x C dx : Addr} {m : Str → Option Value} {od : Obj} {sl : Array (Option Value)} {news : List (Addr × Obj)} (F : Fr g L h m) (N : News g L h news) (h1 : g.get? x = some (⟨.ref C, some dx, .plain, sl⟩ : Obj)) (h2 : (dx, od) ∈ news) :
    InstAt h x ⟨.ref C, some dx, .plain, sl⟩ C (some od) := ⟨F.keep _ _ h1, rfl, rfl, (N _ h2).1⟩
local macro_rules | `(tactic| k_inst) => `(tactic| (refine' instMix ?F ?N ?a ?b; (case F => with_reducible assumption); (case N => with_reducible assumption); (case a => with_reducible assumption); (case b => k_mem)))
/-- all but one object stay -/
abbrev KpX (X : Addr) (h h' : Heap) : Prop := ∀ b o, @Ne Nat b X → h.get? b = some o → h'.get? b = some o
theorem kpX_of {X : Addr} {hs g h' : Heap} {L : Addr} {m : Str → Option Value} {news all : List (Addr × Obj)} (hg : ∀ b o, hs.get? b = some o → b ∉ news.map (·.1) → g.get? b = some o) (hat : ∀ p ∈ news, hs.get? p.1 = some p.2)
    (F : Fr g L h' m) (N : News g L h' all) (hsub : ∀ p ∈ news, p.1 = X ∨ p ∈ all) : KpX X hs h' := by
  intro b o hb e
  by_cases hm : b ∈ news.map (·.1)
  · obtain ⟨p, hp, rfl⟩ := List.mem_map.mp hm
    rcases hsub p hp with h1 | h1
    · exact absurd h1 hb
    · have e2 := hat p hp
      rw [e] at e2
      have e3 := (N p h1).1
      rw [← Option.some.inj e2] at e3
      exact e3
  · exact F.keep b o (hg b o e hm)
abbrev rmDict (h1 h2 h3 : Int) (t1 t2 t3 : Tok) (dflt : Value) (st vl : Addr) : Obj := dictOf [⟨h1, .str (Str.ofString "default") t1, dflt⟩, ⟨h2, .str (Str.ofString "starts") t2, .ref st⟩, ⟨h3, .str (Str.ofString "values") t3, .ref vl⟩] 3
theorem put_end {hs g h' : Heap} {L dx S V : Addr} {m : Str → Option Value} {oD : Obj} {all : List (Addr × Obj)} {h1 h2 h3 : Int} {t1 t2 t3 t k : Tok} {sv vs : List Value} {ns : List Int} {c : Int} {v dflt : Value} {P : Prop}
    (ret : ∀ (st' vl' : Addr) (sv' : List Value), KpX dx hs h' → hs.get? st' = none → hs.get? vl' = none → h'.get? dx = some (rmDict h1 h2 h3 t1 t2 t3 dflt st' vl') → h'.get? st' = some (listOf sv'.toArray 0) → IntsAre sv' (ns ++ [c, c + 1]) → h'.get? vl' = some (listOf (vs ++ [v, dflt]).toArray 0) → P)
    (hg : ∀ b o, hs.get? b = some o → b ∉ [(dx, oD)].map (·.1) → g.get? b = some o) (hat : ∀ p ∈ [(dx, oD)], hs.get? p.1 = some p.2) (F : Fr g L h' m) (N : News g L h' all) (hi : IntsAre sv ns)
    (m1 : (dx, rmDict h1 h2 h3 t1 t2 t3 dflt S V) ∈ all) (m2 : (S, listOf (sv ++ [Value.int c t, Value.int (c + 1) k]).toArray 0) ∈ all) (m3 : (V, listOf (vs ++ [v, dflt]).toArray 0) ∈ all) (n1 : @LT.lt Nat _ dx S) (n2 : @LT.lt Nat _ dx V) : P :=
  ret S V _ (kpX_of hg hat F N (fun p hp => .inl (by rw [List.mem_singleton.mp hp])))
    (freshN hg N m2 (fun p hp => by rw [List.mem_singleton.mp hp]; exact Nat.ne_of_lt n1)) (freshN hg N m3 (fun p hp => by rw [List.mem_singleton.mp hp]; exact Nat.ne_of_lt n2)) (N.get m1) (N.get m2)
    (hi.append (.cons _ _ (.cons _ _ .nil))) (N.get m3)
theorem put_call {w : World} {A : Around} {s : Shared} {Q E : Value → Shared → Prop} {r dx st vl : Addr} {sv vs : List Value} {ns : List Int} {c : Int} {h1 h2 h3 : Int} {t1 t2 t3 t u : Tok} {n1 n2 : Nat} {v dflt : Value}
    (H : HereN w A s.heap [(dx, rmDict h1 h2 h3 t1 t2 t3 dflt st vl)]) (R : Room A 3)
    (hr : s.heap.get? r = some (instObj 278 dx)) (hst : s.heap.get? st = some (listOf sv.toArray n1)) (hi : IntsAre sv ns) (hvl : s.heap.get? vl = some (listOf vs.toArray n2))
    (hc0 : 1 ≤ c) (hc1 : c < 100000) (e1 : pbh ns (c - 1) = (ns.length : Int) - 1) (e2 : pbh ns (c + 1) = (ns.length : Int) - 1) (h0 : 1 ≤ ns.length) (hle : ns.length ≤ 100) (hvs : vs.length = ns.length) (hb : vs[ns.length - 1]? = some dflt) (hlk : LikeNot s.heap dflt v)
    (ret : ∀ (st' vl' : Addr) (sv' : List Value) (h' : Heap) (tk' : Nat), KpX dx s.heap h' → s.heap.get? st' = none → s.heap.get? vl' = none → h'.get? dx = some (rmDict h1 h2 h3 t1 t2 t3 dflt st' vl') → h'.get? st' = some (listOf sv'.toArray 0) → IntsAre sv' (ns ++ [c, c + 1]) → h'.get? vl' = some (listOf (vs ++ [v, dflt]).toArray 0) → Q .none { s with heap := h', toks := tk' }) :
    wpAny (model PR w) A (call (.ref 263) [.ref r, .int c t, .int c u, v]) Q E s := by
  have hat := H.at
  have hD := hat _ (.head _)
  have hr' := fun g hg => get_off (g := g) hg rfl hD hr (by nofun)
  have hst' := fun g hg => get_off (g := g) hg rfl hD hst (by nofun)
  have hvl' := fun g hg => get_off (g := g) hg rfl hD hvl (by nofun)
  refine wpAny_call ?_
  k_dflt (refine' enterN ?enH36 ?enR36 ?en636 ?en736 ?en936 ?enB36 ?_ ?ec236 ?ec336 ?ec436 ?ec536; (case enH36 => assumption); (case enR36 => assumption); (case en636 => k_is); (case en736 => k_is); (case en936 => first | exact BindsTo.of_eq rfl | exact binds_K (by assumption) rfl (by k_is) rfl rfl rfl); (case ec536 => decide); (case enB36 => exact locs rfl); (case ec236 => exact rfl); (case ec336 => exact rfl); (case ec436 => exact rfl); k_whole; intro enq01 enq02 enq03 enq04 enq05 enq06 enq07 enq08 enq09 enq10 enq11 enq12 enq13 enq14 enq15 enq16 enq17 enq18 enq19 enq20 enq21 enq22 enq23 enq24 enq25 enq26 enq27 enq28 enq29 enq30 enq31 enq32 enq33; (try k_lt enq29); (try dsimp only); (try k_fold))
  clear H
  rename ∀ b o, s.heap.get? b = some o → _ => hg
  rename ∀ b o, _ → s.heap.get? b = some o => hs
  replace hr' := hr' _ hg
  replace hst' := hst' _ hg
  replace hvl' := hvl' _ hg
  have hsv : sv.length = ns.length := hi.length
  have hlk' : LikeNot _ dflt v := hlk.off hg rfl hD
  have l1 := isListOf hst'
  have l2 := isListOf hvl'
  with_reducible refine' gen_toks ?_
  intro tk0
  (repeat ((fail_if_success (with_reducible show wpAny _ _ (exec (Stmt.If _ _ _ _) _) _ _ _)); (first | (k_unfold; (try dsimp only)) | ((with_reducible show wpAny _ _ (call (Value.ref 61) _) _ _ _); k_dflt (refine' pbh_callE (by ktr_rel) (by ktr_room) (by is_list) (by l_ints) (by first | omega | k_extra "len") (by k_extra "pbh") ?_); intro t9 h9 tk9; tb_start) | walk1)))
  rename Fr _ _ _ _ => F5
  rename News _ _ _ _ => N5
  have m1 : ¬ 0 > c := by omega
  have m2 : ¬ 1114111 < c := by omega
  replace F5 := Fr.know (Fr.know F5 (x := Str.ofString "first") (v := .int c _) (by k_dflt (exact congrArg (fun z => some (Value.int z _)) (if_neg m1)))) (x := Str.ofString "last") (v := .int c _) (by k_dflt (exact congrArg (fun z => some (Value.int z _)) (if_neg m2)))
  k_with "pbh" => first | exact e1 | exact e2
  k_with "small" => omega
  k_with "len" => omega
  k_with "idx" => omega
  have hb2 : ∀ k : Int, k = (ns.length : Int) - 1 → vs[k.toNat]? = some dflt := fun k e => by
    rw [e, show ((ns.length : Int) - 1).toNat = ns.length - 1 by omega]
    exact hb
  k_with "item" => exact hb2 _ (by omega)
  k_with "upto" => omega
  k_with "like" => exact LikeNot.mono hlk' (Fr.keep (by with_reducible assumption))
  k_with "sum" => ((rw [sizeLine_eq]); simp; omega)
  (repeat' (first | (k_unfold; (try dsimp only)) | ((with_reducible show wpAny _ _ (subscriptTail _ (PySem.Expr.Slice none (some _) none _) (Value.ref _) (Value.ref _)) _ _ _); k_dflt (refine' sl_upto (by k_asm) (by k_asm) (by kmk_list) (by k_extra "upto") (by k_extra "small") ?_ (by with_unfolding_all rfl) (by kmk_pure)); intro D' h' F' N' l1; (try k_lt l1); (try k_sweep)) | ((with_reducible show wpAny _ _ (subscriptTail _ (PySem.Expr.Slice (some _) none none _) (Value.ref _) (Value.ref _)) _ _ _); k_dflt (refine' sl_from (by k_asm) (by k_asm) (by kmk_list) (by k_extra "upto") (by k_extra "small") ?_ (by with_unfolding_all rfl) (by kmk_pure)); intro D' h' F' N' l1; (try k_lt l1); (try k_sweep)) | ((with_reducible show wpAny _ _ (binaryOp _ (Value.ref _) (Value.ref _)) _ _ _); k_dflt (refine' kmk_add_lit (by k_asm) (by k_asm) (by kmk_list) (by kmk_list) (by first | exact (rfl : _ ++ [_, _] = _) | exact (rfl : _ ++ [] = _)) ?_ (by k_extra "sum")); intro D' h' F' N' l1; (try k_lt l1); (try k_sweep)) | ((with_reducible show wpAny _ _ (call (Value.ref 61) _) _ _ _); k_dflt (refine' pbh_callE (by ktr_rel) (by ktr_room) (by is_list) (by l_ints) (by first | omega | k_extra "len") (by k_extra "pbh") ?_); intro t9 h9 tk9; tb_start) | ((with_reducible show wpAny _ _ (call (Value.ref 235) _) _ _ _); k_dflt (refine' ral_not (by ktr_rel) (by ktr_room) (by k_extra "like") ?_); intro h9 tk9; tb_start) | walk1 | (dsimp only; walk1) | (leave1; (try dsimp only))))
  rename Fr _ _ _ _ => F7
  rename News _ _ _ _ => N7
  simp only [List.append_nil] at N7
  (try dsimp only)
  refine' put_end (fun st' vl' sv' => ret st' vl' sv' _ _) hg hat F7 N7 hi ?m1 ?m2 ?m3 ?n1 ?n2
  case m1 => k_mem
  case m2 => k_mem
  case m3 => k_mem
  case n1 => (refine' ltRaw ?la ?lm; (case la => with_reducible assumption); (case lm => k_mem))
  case n2 => (refine' ltRaw ?lb ?ln; (case lb => with_reducible assumption); (case ln => k_mem))

end
local macro_rules | `(tactic| k_inst) => `(tactic| (refine' instMix ?F ?N ?a ?b; (case F => with_reducible assumption); (case N => with_reducible assumption); (case a => with_reducible assumption); (case b => k_mem)))
section
theorem off_mapn : True := by
  w_top off
  trivial
theorem ltAt2 {a b d : Addr} {o : Obj} {l : List (Addr × Obj)} (h : ∀ p ∈ l, p.1 < b) (m : (a, o) ∈ l) (hb : @LT.lt Nat _ b d) : a ≠ d := Nat.ne_of_lt (Nat.lt_trans (h _ m) hb)
theorem gtAt2 {a b d : Addr} {o : Obj} {l : List (Addr × Obj)} (h : ∀ p ∈ l, p.1 < b) (m : (a, o) ∈ l) (hb : @LT.lt Nat _ b d) : d ≠ a := Nat.ne_of_gt (Nat.lt_trans (h _ m) hb)
theorem ltRaw2 {a b d : Addr} {o : Obj} {l : List (Addr × Obj)} (h : ∀ p ∈ l, p.1 < b) (m : (a, o) ∈ l) (hb : @LT.lt Nat _ b d) : @LT.lt Nat _ a d := Nat.lt_trans (h _ m) hb
local macro_rules | `(tactic| k_ne) => `(tactic| first | (refine' ltAt ?la ?lm; (case la => with_reducible assumption); (case lm => k_mem)) | (refine' gtAt ?la ?lm; (case la => with_reducible assumption); (case lm => k_mem)) | (refine' ltAt2 ?la ?lm ?lb; (case lb => with_reducible assumption); (case la => with_reducible assumption); (case lm => k_mem)) | (refine' gtAt2 ?la ?lm ?lb; (case lb => with_reducible assumption); (case la => with_reducible assumption); (case lm => k_mem)) | fail "k_ne")
local macro_rules | `(tactic| k_room) => `(tactic| (refine' Room.roomU ?r ?e; (case r => assumption); (case e => exact Nat.le_refl _)))
abbrev dataDict (h1 h2 h3 h4 : Int) (t1 t2 t3 t4 : Tok) (df mp p q : Addr) (n : Nat) : Obj := dictOf [⟨h1, .str (Str.ofString "defaults") t1, .ref df⟩, ⟨h2, .str (Str.ofString "maps") t2, .ref mp⟩, ⟨h3, .str (Str.ofString "properties") t3, .ref p⟩, ⟨h4, .str (Str.ofString "words") t4, .ref q⟩] n
theorem mapn_end {w : World} {hs g h' : Heap} {L mp r dx st vl : Addr} {m : Str → Option Value} {o o' : Obj} {all : List (Addr × Obj)} {h1 h2 h3 : Int} {t1 t2 t3 k : Tok} {ms : List (Str × Value)} {name : Str} {dv : Value} {P : Prop}
    (ret : KpX mp hs h' → hs.get? r = none → hs.get? dx = none → hs.get? st = none → hs.get? vl = none → h'.get? mp = some o' → o'.IsDictOf (PySem.strKind PR w) (stored ms name (.ref r)) →
      h'.get? r = some (instObj 278 dx) → h'.get? dx = some (rmDict h1 h2 h3 t1 t2 t3 dv st vl) → h'.get? st = some (listOf [Value.int 0 k].toArray 0) → h'.get? vl = some (listOf [dv].toArray 0) → P)
    (hg : ∀ b o', hs.get? b = some o' → b ∉ [(mp, o)].map (·.1) → g.get? b = some o') (hat : ∀ p ∈ [(mp, o)], hs.get? p.1 = some p.2) (F : Fr g L h' m) (N : News g L h' all) (hd : o'.IsDictOf (PySem.strKind PR w) (stored ms name (.ref r)))
    (m0 : (mp, o') ∈ all) (m1 : (r, instObj 278 dx) ∈ all) (m2 : (dx, rmDict h1 h2 h3 t1 t2 t3 dv st vl) ∈ all) (m3 : (st, listOf [Value.int 0 k].toArray 0) ∈ all) (m4 : (vl, listOf [dv].toArray 0) ∈ all)
    (n1 : @LT.lt Nat _ mp r) (n2 : @LT.lt Nat _ mp dx) (n3 : @LT.lt Nat _ mp st) (n4 : @LT.lt Nat _ mp vl) : P :=
  have off {D : Addr} (n : @LT.lt Nat _ mp D) : ∀ p ∈ [(mp, o)], p.1 ≠ D := fun p hp => by rw [List.mem_singleton.mp hp]; exact Nat.ne_of_lt n
  ret (kpX_of hg hat F N (fun p hp => .inl (by rw [List.mem_singleton.mp hp]))) (freshN hg N m1 (off n1)) (freshN hg N m2 (off n2)) (freshN hg N m3 (off n3)) (freshN hg N m4 (off n4)) (N.get m0) hd (N.get m1) (N.get m2) (N.get m3) (N.get m4)
theorem mapn_call {w : World} {A : Around} {s : Shared} {Q E : Value → Shared → Prop} {d dd df mp p q : Addr} {o : Obj} {ms kvs : List (Str × Value)} {h1 h2 h3 h4 : Int} {t1 t2 t3 t4 u : Tok} {n : Nat} {name : Str} {dv : Value}
    (H : HereN w A s.heap [(mp, o)]) (R : Room A 4)
    (hin : s.heap.get? d = some (instObj 334 dd)) (hdd : s.heap.get? dd = some (dataDict h1 h2 h3 h4 t1 t2 t3 t4 df mp p q n)) (hdf : s.heap.DictOf (PySem.strKind PR w) df kvs) (lodf : (df == sysModules) = false) (hv : valueAt kvs name = some dv)
    (ho : o.IsDictOf (PySem.strKind PR w) ms) (lomp : (mp == sysModules) = false) (hn : valueAt ms name = none) (hz : ms.length ≤ 10) (ddmp : @Ne Nat d mp) (dddmp : @Ne Nat dd mp) (dfmp : @Ne Nat df mp)
    (ret : ∀ (r dx st vl : Addr) (o' : Obj) (h1 h2 h3 : Int) (t1 t2 t3 k : Tok) (h' : Heap) (tk' : Nat), KpX mp s.heap h' → s.heap.get? r = none → s.heap.get? dx = none → s.heap.get? st = none → s.heap.get? vl = none → h'.get? mp = some o' → o'.IsDictOf (PySem.strKind PR w) (stored ms name (.ref r)) →
      h'.get? r = some (instObj 278 dx) → h'.get? dx = some (rmDict h1 h2 h3 t1 t2 t3 dv st vl) → h'.get? st = some (listOf [.int 0 k].toArray 0) → h'.get? vl = some (listOf [dv].toArray 0) → Q (.ref r) { s with heap := h', toks := tk' }) :
    wpAny (model PR w) A (call (.ref 331) [.ref d, .str name u]) Q E s := by
  have hat := H.at
  have hX := fun (g : Heap) (hg : ∀ b o', s.heap.get? b = some o' → b ∉ [(mp, o)].map (·.1) → g.get? b = some o') (b : Addr) (o' : Obj) (e : s.heap.get? b = some o') (n : @Ne Nat b mp) => hg b o' e (fun hm => n (by simpa using hm))
  refine wpAny_call ?_
  k_dflt (refine' enterN ?enH37 ?enR37 ?en637 ?en737 ?en937 ?enB37 ?_ ?ec237 ?ec337 ?ec437 ?ec537; (case enH37 => assumption); (case enR37 => assumption); (case en637 => k_is); (case en737 => k_is); (case en937 => first | exact BindsTo.of_eq rfl | exact binds_K (by assumption) rfl (by k_is) rfl rfl rfl); (case ec537 => decide); (case enB37 => exact locs rfl); (case ec237 => exact rfl); (case ec337 => exact rfl); (case ec437 => exact rfl); k_whole; intro enq01 enq02 enq03 enq04 enq05 enq06 enq07 enq08 enq09 enq10 enq11 enq12 enq13 enq14 enq15 enq16 enq17 enq18 enq19 enq20 enq21 enq22 enq23 enq24 enq25 enq26 enq27 enq28 enq29 enq30 enq31 enq32 enq33; (try k_lt enq29); (try dsimp only); (try k_fold))
  clear H
  rename ∀ b o', s.heap.get? b = some o' → _ => hg
  rename ∀ b o', _ → s.heap.get? b = some o' => hs
  have hX := hX _ hg
  have i1 := hX _ _ hin ddmp
  have i2 := hX _ _ hdd dddmp
  obtain ⟨of, es, ep, f1, f2⟩ := hdf
  have i3 : Heap.DictOf _ _ df kvs := ⟨of, es, ep, hX _ _ f1 dfmp, f2⟩
  have hnn : (valueAt ms name).isSome = false := by rw [hn]; rfl
  have hval : ∀ v, valueAt (stored ms name v) name = some v := fun v => by rw [valueAt_stored, if_pos rfl]
  k_with "in" => exact hnn
  k_with "dval" => exact hv
  k_with "size" => ((rw [sizeLine_eq]); omega)
  k_with "val" => exact hval _
  (repeat' (first | (k_unfold; (try dsimp only)) | ((with_reducible show wpAny _ _ (compareOp .NotIn (Value.str _ _) (Value.ref _)) _ _ _); k_dflt (refine' hd_notin (by exact kda_dict (by with_reducible assumption) (by k_mem) (by with_reducible assumption)) (by assumption) (strKind_is _ _ _ _) false (by k_extra "in") ?_)) | ((with_reducible show wpAny _ _ (setItem (Value.ref _) (Value.str _ _) _) _ _ _); k_dflt (refine' kda_set (knd := PySem.strKind _ _) (by k_asm) (by k_asm) (by k_updF) (by k_asm) (strKind_is _ _ _ _) (by k_extra "size") ?_); intro h' o' F' N' hd'; (try dsimp only at N'); k_sweep) | ((with_reducible show wpAny _ _ (subscriptTail _ _ (Value.ref _) (Value.str _ _)) _ _ _); k_dflt (refine' hd_item (by exact kda_dict (by with_reducible assumption) (by k_mem) (by with_reducible assumption)) (strKind_is _ _ _ _) (by k_extra "val") ?_)) | ((with_reducible show wpAny _ _ (getMethod (Value.ref _) (Str.ofString "get") _) _ _ _); k_dflt (refine' hd_method (knd := PySem.strKind PR _) (by exact dictKeep (by with_reducible assumption) (Fr.keep (by with_reducible assumption))) ?_)) | ((with_reducible show wpAny _ _ (call (Value.builtin "dict.get") [Value.ref _, Value.str _ _]) _ _ _); k_dflt (refine' hd_get1 (by exact dictKeep (by with_reducible assumption) (Fr.keep (by with_reducible assumption))) (by assumption) (strKind_is _ _ _ _) (some _) (by k_extra "dval") ?_)) | walk1 | (dsimp only; walk1) | (leave1; (try dsimp only))))
  rename Fr _ _ _ _ => F7
  rename News _ _ _ _ => N7
  with_reducible rename Obj.IsDictOf _ _ _ => d7
  (try dsimp only)
  refine' mapn_end (ret _ _ _ _ _ _ _ _ _ _ _ _ _ _) hg hat F7 N7 d7 ?m0 ?m1 ?m2 ?m3 ?m4 ?n1 ?n2 ?n3 ?n4
  case m0 => k_mem
  case m1 => k_mem
  case m2 => k_mem
  case m3 => k_mem
  case m4 => k_mem
  case n1 => first | (refine' ltRaw ?la1 ?lm1; (case la1 => with_reducible assumption); (case lm1 => k_mem)) | (refine' ltRaw2 ?la1 ?lm1 ?lb1; (case lb1 => with_reducible assumption); (case la1 => with_reducible assumption); (case lm1 => k_mem))
  case n2 => first | (refine' ltRaw ?la2 ?lm2; (case la2 => with_reducible assumption); (case lm2 => k_mem)) | (refine' ltRaw2 ?la2 ?lm2 ?lb2; (case lb2 => with_reducible assumption); (case la2 => with_reducible assumption); (case lm2 => k_mem))
  case n3 => first | (refine' ltRaw ?la3 ?lm3; (case la3 => with_reducible assumption); (case lm3 => k_mem)) | (refine' ltRaw2 ?la3 ?lm3 ?lb3; (case lb3 => with_reducible assumption); (case la3 => with_reducible assumption); (case lm3 => k_mem))
  case n4 => first | (refine' ltRaw ?la4 ?lm4; (case la4 => with_reducible assumption); (case lm4 => k_mem)) | (refine' ltRaw2 ?la4 ?lm4 ?lb4; (case lb4 => with_reducible assumption); (case la4 => with_reducible assumption); (case lm4 => k_mem))

end
local macro_rules | `(tactic| k_ne) => `(tactic| first | (refine' ltAt ?la ?lm; (case la => with_reducible assumption); (case lm => k_mem)) | (refine' gtAt ?la ?lm; (case la => with_reducible assumption); (case lm => k_mem)) | (refine' ltAt2 ?la ?lm ?lb; (case lb => with_reducible assumption); (case la => with_reducible assumption); (case lm => k_mem)) | (refine' gtAt2 ?la ?lm ?lb; (case lb => with_reducible assumption); (case la => with_reducible assumption); (case lm => k_mem)) | fail "k_ne")
section
theorem off_mapo : True := by
  w_top off
  trivial
theorem mapo_call {w : World} {A : Around} {s : Shared} {Q E : Value → Shared → Prop} {d dd df mp p q r : Addr} {ms : List (Str × Value)} {h1 h2 h3 h4 : Int} {t1 t2 t3 t4 u : Tok} {n : Nat} {name : Str}
    (H : Here w A s.heap) (R : Room A 1) (i1 : s.heap.get? d = some (instObj 334 dd)) (i2 : s.heap.get? dd = some (dataDict h1 h2 h3 h4 t1 t2 t3 t4 df mp p q n))
    (ho : s.heap.DictOf (PySem.strKind PR w) mp ms) (lomp : (mp == sysModules) = false) (hv : valueAt ms name = some (.ref r))
    (ret : ∀ h' tk', Kp s.heap h' → Q (.ref r) { s with heap := h', toks := tk' }) :
    wpAny (model PR w) A (call (.ref 331) [.ref d, .str name u]) Q E s := by
  have hnn : (valueAt ms name).isSome = true := by rw [hv]; rfl
  refine wpAny_call ?_
  k_dflt (refine' enterP ?enH38 ?enR38 ?en638 ?en738 ?en938 ?enB38 ?_ ?ec238 ?ec338 ?ec438 ?ec538; (case enH38 => assumption); (case enR38 => assumption); (case en638 => k_is); (case en738 => k_is); (case en938 => first | exact BindsTo.of_eq rfl | exact binds_K (by assumption) rfl (by k_is) rfl rfl rfl); (case ec538 => decide); (case enB38 => exact locs rfl); (case ec238 => exact rfl); (case ec338 => exact rfl); (case ec438 => exact rfl); k_whole; intro enq01 enq02 enq03 enq04 enq05 enq06 enq07 enq08 enq09 enq10 enq11 enq12 enq13 enq14 enq15 enq16 enq17 enq18 enq19 enq20 enq21 enq22 enq23 enq24 enq25 enq26 enq27 enq28; (try dsimp only); (try k_fold))
  clear H
  k_with "in" => exact hnn
  k_with "val" => exact hv
  (repeat' (first | (k_unfold; (try dsimp only)) | ((with_reducible show wpAny _ _ (compareOp .NotIn (Value.str _ _) (Value.ref _)) _ _ _); k_dflt (refine' hd_notin (by exact dictKeep (by with_reducible assumption) (Fr.keep (by with_reducible assumption))) (by assumption) (strKind_is _ _ _ _) true (by k_extra "in") ?_)) | ((with_reducible show wpAny _ _ (subscriptTail _ _ (Value.ref _) (Value.str _ _)) _ _ _); k_dflt (refine' hd_item (knd := PySem.strKind PR _) (by exact dictKeep (by with_reducible assumption) (Fr.keep (by with_reducible assumption))) (strKind_is _ _ _ _) (by k_extra "val") ?_)) | walk1 | (dsimp only; walk1) | (leave1; (try dsimp only))))
  all_goals exact endV (Q := Q) ret (Fr.keep (by with_reducible assumption))

end
section
theorem off_dput : True := by
  w_top off
  trivial
theorem Kp.x {X : Addr} {h h' : Heap} (k : Kp h h') : KpX X h h' := fun b o _ e => k b o e
theorem KpX.trans {X : Addr} {h h' h'' : Heap} (a : KpX X h h') (b : KpX X h' h'') : KpX X h h'' := fun x o n e => b x o n (a x o n e)
theorem KpX.fresh {X Y : Addr} {h h' h'' : Heap} (a : KpX X h h') (b : KpX Y h' h'') (f : h.get? Y = none) : KpX X h h'' := fun x o n e => b x o (fun q => by rw [q, f] at e; cases e) (a x o n e)
theorem KpX.back {X r : Addr} {h h' : Heap} {oX : Obj} (a : KpX X h h') (eX : h'.get? X = some oX) (f : h'.get? r = none) : h.get? r = none := by
  cases q : h.get? r with
  | none => rfl
  | some o =>
    by_cases hx : (r : Nat) = X
    · have hx' : r = X := hx
      rw [hx', eX] at f; cases f
    · rw [a r o hx q] at f; cases f
theorem ne_fresh {h : Heap} {a b : Addr} {o : Obj} (f : h.get? a = none) (e : h.get? b = some o) : @Ne Nat b a := fun q => by
  have q' : b = a := q
  rw [q', f] at e; cases e
theorem ne_cls {h : Heap} {a b : Addr} {o o' : Obj} (f : h.get? a = some o) (e : h.get? b = some o') (n : o.cls ≠ o'.cls) : @Ne Nat a b := fun q => by
  have q' : a = b := q
  rw [q', e] at f
  exact n (congrArg Obj.cls (Option.some.inj f).symm)
theorem LikeNot.offD {w : World} {h g : Heap} {a v : Value} {D : Addr} {o : Obj} {ms : List (Str × Value)} (l : LikeNot h a v) (hX : ∀ (b : Addr) (o' : Obj), h.get? b = some o' → @Ne Nat b D → g.get? b = some o') (hD : h.get? D = some o) (ho : o.IsDictOf (PySem.strKind PR w) ms) : LikeNot g a v := by
  rcases l with l | ⟨e, q, us, m, e2, k⟩
  · exact .inl l
  · refine .inr ⟨e, q, us, m, e2, hX _ _ k (fun x => ?_)⟩
    obtain ⟨es, ep, c1, c2, _⟩ := ho
    have x' : q = D := x
    rw [x', hD] at k
    rw [Option.some.inj k] at c2
    exact nomatch c2
/-- the frame and the ledger behind a call that changes one object of the ledger -/
theorem frX {g h h' : Heap} {L X : Addr} {m : Str → Option Value} {news : List (Addr × Obj)} {oX : Obj} (F : Fr g L h m) (N : News g L h news) (hX : (X, oX) ∈ news) (k : KpX X h h') : Fr g L h' m := by
  have n := N _ hX
  refine ⟨F.ns.at fun o e => k L o (fun q => n.2.1 q.symm) e, fun b o e => k b o (fun q => ?_) (F.keep b o e), F.above⟩
  have n3 := n.2.2
  rw [q] at e
  rw [e] at n3
  cases n3
theorem newsX {g h h' : Heap} {L X : Addr} {pre post : List (Addr × Obj)} {oX oX' : Obj} (N : News g L h (pre ++ (X, oX) :: post)) (h1 : ∀ p ∈ pre, @Ne Nat p.1 X) (h2 : ∀ p ∈ post, @Ne Nat p.1 X) (k : KpX X h h') (e : h'.get? X = some oX') : News g L h' (pre ++ (X, oX') :: post) := by
  intro p hp
  rcases List.mem_append.mp hp with hp | hp
  · have n := N p (List.mem_append_left _ hp)
    exact ⟨k _ _ (h1 p hp) n.1, n.2⟩
  · rcases List.mem_cons.mp hp with rfl | hp
    · have n := N _ (List.mem_append_right _ (.head _))
      exact ⟨e, n.2⟩
    · have n := N p (List.mem_append_right _ (.tail _ hp))
      exact ⟨k _ _ (h2 p hp) n.1, n.2⟩
theorem dputn_call {w : World} {A : Around} {s : Shared} {Q E : Value → Shared → Prop} {d dd df mp p q : Addr} {o : Obj} {ms kvs : List (Str × Value)} {a1 a2 a3 a4 : Int} {b1 b2 b3 b4 u t t' : Tok} {n : Nat} {name : Str} {dv v : Value} {c : Int}
    (H : HereN w A s.heap [(mp, o)]) (R : Room A 8)
    (i1 : s.heap.get? d = some (instObj 334 dd)) (i2 : s.heap.get? dd = some (dataDict a1 a2 a3 a4 b1 b2 b3 b4 df mp p q n)) (hdf : s.heap.DictOf (PySem.strKind PR w) df kvs) (lodf : (df == sysModules) = false) (hv : valueAt kvs name = some dv)
    (ho : o.IsDictOf (PySem.strKind PR w) ms) (lomp : (mp == sysModules) = false) (hn : valueAt ms name = none) (hz : ms.length ≤ 10) (ddmp : @Ne Nat d mp) (dddmp : @Ne Nat dd mp) (dfmp : @Ne Nat df mp)
    (hc0 : 1 ≤ c) (hc1 : c < 100000) (e1 : pbh [0] (c - 1) = 0) (e2 : pbh [0] (c + 1) = 0) (hlk : LikeNot s.heap dv v)
    (ret : ∀ (r dx st vl : Addr) (o' : Obj) (sv : List Value) (h1 h2 h3 : Int) (t1 t2 t3 : Tok) (h' : Heap) (tk' : Nat), KpX mp s.heap h' → s.heap.get? r = none → s.heap.get? dx = none → s.heap.get? st = none → s.heap.get? vl = none → h'.get? mp = some o' → o'.IsDictOf (PySem.strKind PR w) (stored ms name (.ref r)) →
      h'.get? r = some (instObj 278 dx) → h'.get? dx = some (rmDict h1 h2 h3 t1 t2 t3 dv st vl) → h'.get? st = some (listOf sv.toArray 0) → IntsAre sv [0, c, c + 1] → h'.get? vl = some (listOf [dv, v, dv].toArray 0) → Q .none { s with heap := h', toks := tk' }) :
    wpAny (model PR w) A (call (.ref 317) [.ref d, .str name u, .int c t, .int c t', v]) Q E s := by
  have hat := H.at
  have hX := fun (g : Heap) (hg : ∀ b o', s.heap.get? b = some o' → b ∉ [(mp, o)].map (·.1) → g.get? b = some o') (b : Addr) (o' : Obj) (e : s.heap.get? b = some o') (n : @Ne Nat b mp) => hg b o' e (fun hm => n (by simpa using hm))
  refine wpAny_call ?_
  k_dflt (refine' enterN ?enH39 ?enR39 ?en639 ?en739 ?en939 ?enB39 ?_ ?ec239 ?ec339 ?ec439 ?ec539; (case enH39 => assumption); (case enR39 => assumption); (case en639 => k_is); (case en739 => k_is); (case en939 => first | exact BindsTo.of_eq rfl | exact binds_K (by assumption) rfl (by k_is) rfl rfl rfl); (case ec539 => decide); (case enB39 => exact locs rfl); (case ec239 => exact rfl); (case ec339 => exact rfl); (case ec439 => exact rfl); k_whole; intro enq01 enq02 enq03 enq04 enq05 enq06 enq07 enq08 enq09 enq10 enq11 enq12 enq13 enq14 enq15 enq16 enq17 enq18 enq19 enq20 enq21 enq22 enq23 enq24 enq25 enq26 enq27 enq28 enq29 enq30 enq31 enq32 enq33; (try k_lt enq29); (try dsimp only); (try k_fold))
  clear H
  rename ∀ b o', s.heap.get? b = some o' → _ => hg
  rename ∀ b o', _ → s.heap.get? b = some o' => hs
  have hX := hX _ hg
  replace i1 := hX _ _ i1 ddmp
  replace i2 := hX _ _ i2 dddmp
  obtain ⟨of, es, ep, f1, f2⟩ := hdf
  have i3 : Heap.DictOf _ _ df kvs := ⟨of, es, ep, hX _ _ f1 dfmp, f2⟩
  have hlk' := hlk.offD hX (hat _ (.head _)) ho
  (repeat ((fail_if_success (with_reducible show wpAny _ _ (call (Value.ref 331) _) _ _ _)); walk1))
  rename Fr _ _ _ _ => F5
  rename News _ _ _ _ => N5
  refine mapn_call (HereN.mk F5 N5 (fun p hp => hp) (by k_asm) (by k_asm) (by k_asm) (by k_asm) rfl) (Room.less (by assumption) (by decide)) (F5.keep _ _ i1) (F5.keep _ _ i2) (dictKeep i3 F5.keep) lodf hv ho lomp hn hz ddmp dddmp dfmp ?_
  intro r dx st vl o' h1 h2 h3 t1 t2 t3 k h9 tk9 k9 fr fdx fst fvl gmp do' gr gdx gst gvl
  have F6 := frX F5 N5 (.head _) k9
  have N6 := newsX (pre := []) (post := []) N5 (fun p hp => absurd hp List.not_mem_nil) (fun p hp => absurd hp List.not_mem_nil) k9 gmp
  replace N6 := news1 F5 fr gr N6
  replace N6 := news1 F5 fdx gdx N6
  replace N6 := news1 F5 fst gst N6
  replace N6 := news1 F5 fvl gvl N6
  have gm := N5.get (.head _)
  have z1 := ne_fresh fr gm
  have z2 := ne_fresh fdx gm
  have z3 := ne_fresh fst gm
  have z4 := ne_fresh fvl gm
  dsimp only [List.nil_append] at N6
  clear F5 N5 k9 gmp fr fdx fst fvl gr gdx gst gvl gm
  (repeat ((fail_if_success (with_reducible show wpAny _ _ (call (Value.ref 263) _) _ _ _)); walk1))
  rename Fr _ _ _ _ => F7
  rename News _ _ _ _ => N7
  refine put_call (HereN.mk F7 N7 (fun p hp => by rw [List.mem_singleton.mp hp]; k_mem) (by k_asm) (by k_asm) (by k_asm) (by k_asm) rfl) (Room.less (by assumption) (by decide)) (N7.get (by k_mem)) (N7.get (by k_mem)) (.cons _ _ .nil) (N7.get (by k_mem)) hc0 hc1 e1 e2 (Nat.le_refl _) (by decide) rfl rfl (LikeNot.mono hlk' F7.keep) ?_
  intro st' vl' sv' h8 tk8 k8 fst' fvl' gdx' gst' isv gvl'
  have k7 := kpX_of hg hat F7 N7 (fun p hp => .inl (by rw [List.mem_singleton.mp hp]))
  have gm := N7.get (a := mp) (o := o') (by k_mem)
  have gr := N7.get (a := r) (o := instObj 278 dx) (by k_mem)
  have gx := N7.get (a := dx) (o := rmDict h1 h2 h3 t1 t2 t3 dv st vl) (by k_mem)
  have off := fun (D : Addr) (n : @Ne Nat mp D) (p : Addr × Obj) (hp : p ∈ [(mp, o)]) => (by rw [List.mem_singleton.mp hp]; exact n : p.1 ≠ D)
  have q1 := freshN (D := r) (oD := instObj 278 dx) hg N7 (by k_mem) (off _ z1)
  have q2 := freshN (D := dx) (oD := rmDict h1 h2 h3 t1 t2 t3 dv st vl) hg N7 (by k_mem) (off _ z2)
  (repeat' (first | (k_unfold; (try dsimp only)) | walk1 | (dsimp only; walk1) | (leave1; (try dsimp only))))
  exact ret r dx st' vl' o' sv' _ _ _ _ _ _ h8 _ (k7.fresh k8 q2) q1 q2 (k7.back gm fst') (k7.back gm fvl') (k8 _ _ z2 gm) do' (k8 _ _ (ne_cls gr gx nofun) gr) gdx' gst' isv gvl'

end
section
theorem off_dputo : True := by
  w_top off
  trivial
theorem dputo_call {w : World} {A : Around} {s : Shared} {Q E : Value → Shared → Prop} {d dd df mp p q r dx st vl : Addr} {ms : List (Str × Value)} {a1 a2 a3 a4 : Int} {b1 b2 b3 b4 u t t' : Tok} {n n1 n2 : Nat} {name : Str} {dflt v : Value} {c : Int} {h1 h2 h3 : Int} {t1 t2 t3 : Tok} {sv vs : List Value} {ns : List Int}
    (H : HereN w A s.heap [(dx, rmDict h1 h2 h3 t1 t2 t3 dflt st vl)]) (R : Room A 8)
    (i1 : s.heap.get? d = some (instObj 334 dd)) (i2 : s.heap.get? dd = some (dataDict a1 a2 a3 a4 b1 b2 b3 b4 df mp p q n))
    (ho : s.heap.DictOf (PySem.strKind PR w) mp ms) (lomp : (mp == sysModules) = false) (hn : valueAt ms name = some (.ref r)) (dddx : @Ne Nat dd dx) (mpdx : @Ne Nat mp dx)
    (hr : s.heap.get? r = some (instObj 278 dx)) (hst : s.heap.get? st = some (listOf sv.toArray n1)) (hi : IntsAre sv ns) (hvl : s.heap.get? vl = some (listOf vs.toArray n2))
    (hc0 : 1 ≤ c) (hc1 : c < 100000) (e1 : pbh ns (c - 1) = (ns.length : Int) - 1) (e2 : pbh ns (c + 1) = (ns.length : Int) - 1) (h0 : 1 ≤ ns.length) (hle : ns.length ≤ 100) (hvs : vs.length = ns.length) (hb : vs[ns.length - 1]? = some dflt) (hlk : LikeNot s.heap dflt v)
    (ret : ∀ (st' vl' : Addr) (sv' : List Value) (h' : Heap) (tk' : Nat), KpX dx s.heap h' → s.heap.get? st' = none → s.heap.get? vl' = none → h'.get? dx = some (rmDict h1 h2 h3 t1 t2 t3 dflt st' vl') → h'.get? st' = some (listOf sv'.toArray 0) → IntsAre sv' (ns ++ [c, c + 1]) → h'.get? vl' = some (listOf (vs ++ [v, dflt]).toArray 0) → Q .none { s with heap := h', toks := tk' }) :
    wpAny (model PR w) A (call (.ref 317) [.ref d, .str name u, .int c t, .int c t', v]) Q E s := by
  have hat := H.at
  have hX := fun (g : Heap) (hg : ∀ b o', s.heap.get? b = some o' → b ∉ [(dx, rmDict h1 h2 h3 t1 t2 t3 dflt st vl)].map (·.1) → g.get? b = some o') (b : Addr) (o' : Obj) (e : s.heap.get? b = some o') (n : @Ne Nat b dx) => hg b o' e (fun hm => n (by simpa using hm))
  have gD := hat _ (.head _)
  refine wpAny_call ?_
  k_dflt (refine' enterN ?enH40 ?enR40 ?en640 ?en740 ?en940 ?enB40 ?_ ?ec240 ?ec340 ?ec440 ?ec540; (case enH40 => assumption); (case enR40 => assumption); (case en640 => k_is); (case en740 => k_is); (case en940 => first | exact BindsTo.of_eq rfl | exact binds_K (by assumption) rfl (by k_is) rfl rfl rfl); (case ec540 => decide); (case enB40 => exact locs rfl); (case ec240 => exact rfl); (case ec340 => exact rfl); (case ec440 => exact rfl); k_whole; intro enq01 enq02 enq03 enq04 enq05 enq06 enq07 enq08 enq09 enq10 enq11 enq12 enq13 enq14 enq15 enq16 enq17 enq18 enq19 enq20 enq21 enq22 enq23 enq24 enq25 enq26 enq27 enq28 enq29 enq30 enq31 enq32 enq33; (try k_lt enq29); (try dsimp only); (try k_fold))
  clear H
  rename ∀ b o', s.heap.get? b = some o' → _ => hg
  rename ∀ b o', _ → s.heap.get? b = some o' => hs
  have hX := hX _ hg
  replace i1 := hX _ _ i1 (ne_cls i1 gD (by nofun))
  replace i2 := hX _ _ i2 dddx
  replace hr := hX _ _ hr (ne_cls hr gD (by nofun))
  replace hst := hX _ _ hst (ne_cls hst gD (by simp))
  replace hvl := hX _ _ hvl (ne_cls hvl gD (by simp))
  obtain ⟨of, es, ep, f1, f2⟩ := ho
  have i3 : Heap.DictOf _ _ mp ms := ⟨of, es, ep, hX _ _ f1 mpdx, f2⟩
  have hlk' := hlk.off hg rfl gD
  clear f1 f2
  (repeat ((fail_if_success (with_reducible show wpAny _ _ (call (Value.ref 331) _) _ _ _)); walk1))
  rename Fr _ _ _ _ => F5
  rename News _ _ _ _ => N5
  refine mapo_call (by ktr_rel) (Room.less (by assumption) (by decide)) (F5.keep _ _ i1) (F5.keep _ _ i2) (dictKeep i3 F5.keep) lomp hn ?_
  intro h9 tk9
  tb_start
  (repeat ((fail_if_success (with_reducible show wpAny _ _ (call (Value.ref 263) _) _ _ _)); walk1))
  rename Fr _ _ _ _ => F7
  rename News _ _ _ _ => N7
  refine put_call (HereN.mk F7 N7 (fun p hp => hp) (by k_asm) (by k_asm) (by k_asm) (by k_asm) rfl) (Room.less (by assumption) (by decide)) (F7.keep _ _ hr) (F7.keep _ _ hst) hi (F7.keep _ _ hvl) hc0 hc1 e1 e2 h0 hle hvs hb (LikeNot.mono hlk' F7.keep) ?_
  intro st' vl' sv' h8 tk8 k8 fst' fvl' gdx' gst' isv gvl'
  have k7 := kpX_of hg hat F7 N7 (fun p hp => .inl (by rw [List.mem_singleton.mp hp]))
  have gm := N7.get (.head _)
  (repeat' (first | (k_unfold; (try dsimp only)) | walk1 | (dsimp only; walk1) | (leave1; (try dsimp only))))
  exact ret st' vl' sv' h8 _ (k7.trans k8) (k7.back gm fst') (k7.back gm fvl') gdx' gst' isv gvl'

end
section
theorem off_srt : True := by
  w_top off
  trivial
theorem isInt_inv {prog : Program} {w : World} {k : Int} : ∀ {v : Value}, (intKind prog w).is k v = true → ∃ t, v = .int k t
  | .int n t, h => by
    have : n = k := by simpa [intKind, Value.isInt] using h
    exact ⟨t, by rw [this]⟩
  | .none, h | .ellipsis, h | .notImplemented, h | .bool _, h | .float _ _, h | .str _ _, h | .bytes _ _, h | .type _, h | .builtin _, h | .ref _, h => by simp [intKind, Value.isInt] at h
theorem intsOfKeys {prog : Program} {w : World} : ∀ {kvs : List (Int × Value)} {vs : List Value}, vs.length = kvs.length → (∀ (j : Nat) (v : Value), vs[j]? = some v → ∃ k x, kvs[j]? = some (k, x) ∧ (intKind prog w).is k v = true) → IntsAre vs (kvs.map (·.1))
  | [], [], _, _ => .nil
  | [], _ :: _, e, _ => by simp at e
  | _ :: _, [], e, _ => by simp at e
  | (k, x) :: kvs, v :: vs, e, h => by
    obtain ⟨k', x', e1, e2⟩ := h 0 v rfl
    have e1' : (k, x) = (k', x') := by simpa using e1
    cases e1'
    obtain ⟨t, rfl⟩ := isInt_inv e2
    exact .cons k t (intsOfKeys (by simpa using e) fun j v' hj => h (j + 1) v' (by simpa using hj))
theorem sortedK {prog : Program} {w : World} {A : Around} {E : Value → Shared → Prop} {s : Shared} {h₀ : Heap} {L d : Addr} {m : Str → Option Value} {news : List (Addr × Obj)} {kvs : List (Int × Value)} {q : List Int} {Q : Value → Shared → Prop}
    (hh : A.handled = none) (F : Fr h₀ L s.heap m) (N : News h₀ L s.heap news) (D : s.heap.DictOf (intKind prog w) d kvs) (lo : (d == sysModules) = false) (hn : kvs.length ≤ 10) (hp : q.Perm (kvs.map (·.1))) (hs : q.Pairwise (fun x y => x ≤ y))
    (h : ∀ (D : Addr) (vs : List Value) (c : Nat) (h' : Heap) (tk : Nat), Fr h₀ L h' m → News h₀ L h' ((D, listOf vs.toArray c) :: news) → (∀ p ∈ news, p.1 < D) → IntsAre vs q → Q (.ref D) { s with heap := h', toks := tk }) :
    wpAny (model prog w) A (call (.builtin "sorted") [.ref d]) Q E s := by
  obtain ⟨ep, hat⟩ := D.dictAt
  refine kdu_sorted (kdl_dict (knd := intKind prog w) (kvs := kvs) (ep := ep) lo) hh F N hat (by rw [sizeLine_eq]; omega) fun B h' tk vs F' N' l1 hl hv => ?_
  have hi := intsOfKeys (prog := prog) (w := w) hl hv
  refine ksk_lsort F' N' (news' := fun o => (B, o) :: news) (fun o => Upd.head fun p hp => Nat.ne_of_lt (l1 p hp)) rfl hi (by simp; omega) fun vs' ns' c h2 F2 N2 hi2 _ hp2 hs2 _ => ?_
  have e : ns' = q := lks_uniq (hp2.trans hp.symm) hs2 hs
  subst e
  exact h B vs' c h2 _ F2 N2 l1 hi2
theorem ints_inv {vs : List Value} {n : Int} {ns : List Int} (h : IntsAre vs (n :: ns)) : ∃ t r, vs = .int n t :: r ∧ IntsAre r ns := by
  cases h with
  | cons _ t h => exact ⟨t, _, rfl, h⟩
theorem ints_nil {vs : List Value} (h : IntsAre vs []) : vs = [] := by cases h; rfl
theorem ints2 {vs : List Value} {a b : Int} (h : IntsAre vs [a, b]) : ∃ t u, vs = [.int a t, .int b u] := by
  obtain ⟨t, r, e, h1⟩ := ints_inv h
  obtain ⟨u, r2, e2, h2⟩ := ints_inv h1
  exact ⟨t, u, by rw [e, e2, ints_nil h2]⟩
theorem ints3 {vs : List Value} {a b c : Int} (h : IntsAre vs [a, b, c]) : ∃ t u v, vs = [.int a t, .int b u, .int c v] := by
  obtain ⟨t, r, e, h1⟩ := ints_inv h
  obtain ⟨u, v, e2⟩ := ints2 h1
  exact ⟨t, u, v, by rw [e, e2]⟩
theorem ints4 {vs : List Value} {a b c d : Int} (h : IntsAre vs [a, b, c, d]) : ∃ t u v x, vs = [.int a t, .int b u, .int c v, .int d x] := by
  obtain ⟨t, r, e, h1⟩ := ints_inv h
  obtain ⟨u, v, x, e2⟩ := ints3 h1
  exact ⟨t, u, v, x, by rw [e, e2]⟩

end
section
theorem off_ld : True := by
  w_top off
  trivial
local macro_rules | `(tactic| regstrif_slice) => `(tactic| first | (with_reducible first | exact mAt0 | exact mAt1 | exact mAt2 | exact mAt3 | exact mAt4 | exact mAt5 | exact mAt6 | exact mAt7 | exact mAt8 | exact mAt9) | ((with_reducible refine mTl10 ?_); regstrif_slice) | k_mem)
local macro_rules | `(tactic| k_room) => `(tactic| (refine' Room.roomU ?r ?e; (case r => assumption); (case e => exact Nat.le_refl _)))
theorem News.pick {g h : Heap} {L : Addr} {l all : List (Addr × Obj)} (N : News g L h all) (sub : SubL l all) : News g L h l := fun p hp => N p (sub.mem p hp)
theorem off_at {D a : Addr} {o : Obj} : ∀ {l : List (Addr × Obj)}, LCg.Off1 D l → (a, o) ∈ l → @Ne Nat a D
  | q :: r, h, m => by
    have h' : (@Ne Nat q.1 D) ∧ LCg.Off1 D r := h
    rcases List.mem_cons.mp m with e | m
    · rw [← e] at h'; exact h'.1
    · exact off_at h'.2 m
theorem putnew_ledU {g h h' : Heap} {L mp r dx st vl : Addr} {m : Str → Option Value} {o o' : Obj} {news : List (Addr × Obj)} {gg : Obj → List (Addr × Obj)} {h1 h2 h3 : Int} {t1 t2 t3 : Tok} {dv : Value} {sv vs : List Value} (F : Fr g L h m) (N : News g L h news) (U : UpdF mp o news gg) (k : KpX mp h h') (f1 : h.get? r = none) (f2 : h.get? dx = none) (f3 : h.get? st = none) (f4 : h.get? vl = none)
    (g0 : h'.get? mp = some o') (g1 : h'.get? r = some (instObj 278 dx)) (g2 : h'.get? dx = some (rmDict h1 h2 h3 t1 t2 t3 dv st vl)) (g3 : h'.get? st = some (listOf sv.toArray 0)) (g4 : h'.get? vl = some (listOf vs.toArray 0)) :
    Fr g L h' m ∧ News g L h' ((vl, listOf vs.toArray 0) :: (st, listOf sv.toArray 0) :: (dx, rmDict h1 h2 h3 t1 t2 t3 dv st vl) :: (r, instObj 278 dx) :: gg o') ∧ LCg.Off1 r news ∧ LCg.Off1 dx ((r, instObj 278 dx) :: (st, listOf sv.toArray 0) :: (vl, listOf vs.toArray 0) :: news) ∧ LCg.Off1 st news ∧ LCg.Off1 vl news := by
  obtain ⟨pre, post, e1, e2, a, b⟩ := U.split
  have o1 := newOff N f1
  have o2 := newOff N f2
  have o3 := newOff N f3
  have o4 := newOff N f4
  have N0 : News g L h (pre ++ (mp, o) :: post) := e1 ▸ N
  have N6 : News g L h' (gg o') := by rw [e2]; exact newsX N0 a b k g0
  exact ⟨frX F N0 (List.mem_append_right _ (.head _)) k, news1 F f4 g4 (news1 F f3 g3 (news1 F f2 g2 (news1 F f1 g1 N6))), o1, ⟨ne_cls g1 g2 (by nofun), ne_cls g3 g2 (by simp), ne_cls g4 g2 (by simp), o2⟩, o3, o4⟩
theorem putold_ledU {g h h' : Heap} {L dx st vl : Addr} {m : Str → Option Value} {o o' : Obj} {news : List (Addr × Obj)} {gg : Obj → List (Addr × Obj)} {o3 o4 : Obj} (F : Fr g L h m) (N : News g L h news) (U : UpdF dx o news gg) (k : KpX dx h h') (f3 : h.get? st = none) (f4 : h.get? vl = none)
    (g0 : h'.get? dx = some o') (g3 : h'.get? st = some o3) (g4 : h'.get? vl = some o4) :
    Fr g L h' m ∧ News g L h' ((vl, o4) :: (st, o3) :: gg o') ∧ LCg.Off1 st news ∧ LCg.Off1 vl news := by
  obtain ⟨pre, post, e1, e2, a, b⟩ := U.split
  have o1 := newOff N f3
  have o2 := newOff N f4
  have N0 : News g L h (pre ++ (dx, o) :: post) := e1 ▸ N
  have N6 : News g L h' (gg o') := by rw [e2]; exact newsX N0 a b k g0
  exact ⟨frX F N0 (List.mem_append_right _ (.head _)) k, news1 F f4 g4 (news1 F f3 g3 N6), o1, o2⟩
theorem ld_shape {g h : Heap} {L mp df d dd p q : Addr} {omp odf : Obj} {x1 x2 : Addr × Obj} {c1 c2 c3 c4 : Int} {b1 b2 b3 b4 : Tok} {n : Nat} (N : News g L h [x1, x2, (mp, omp), (df, odf), (d, instObj 334 dd), (dd, dataDict c1 c2 c3 c4 b1 b2 b3 b4 df mp p q n)]) :
    ∃ c1 c2 c3 c4 b1 b2 b3 b4 p q n, News g L h [(mp, omp), (df, odf), (d, instObj 334 dd), (dd, dataDict c1 c2 c3 c4 b1 b2 b3 b4 df mp p q n)] :=
  ⟨c1, c2, c3, c4, b1, b2, b3, b4, p, q, n, fun y hy => N y (.tail _ (.tail _ hy))⟩
abbrev News.o0 {g h : Heap} {L a : Addr} {o : Obj} {r : List (Addr × Obj)} (_ : News g L h ((a, o) :: r)) : Obj := o
theorem News.tl {g h : Heap} {L : Addr} {p : Addr × Obj} {r : List (Addr × Obj)} (N : News g L h (p :: r)) : News g L h r := fun q hq => N q (.tail _ hq)
/-- the same with names, handed on -/
theorem putnew_T {g h h' : Heap} {L mp r dx st vl : Addr} {m : Str → Option Value} {o o' : Obj} {news : List (Addr × Obj)} {gg : Obj → List (Addr × Obj)} {h1 h2 h3 : Int} {t1 t2 t3 : Tok} {dv : Value} {sv vs : List Value} {P : Prop} (F : Fr g L h m) (N : News g L h news) (U : UpdF mp o news gg) (k : KpX mp h h') (f1 : h.get? r = none) (f2 : h.get? dx = none) (f3 : h.get? st = none) (f4 : h.get? vl = none)
    (g0 : h'.get? mp = some o') (g1 : h'.get? r = some (instObj 278 dx)) (g2 : h'.get? dx = some (rmDict h1 h2 h3 t1 t2 t3 dv st vl)) (g3 : h'.get? st = some (listOf sv.toArray 0)) (g4 : h'.get? vl = some (listOf vs.toArray 0))
    (go : let n' : List (Addr × Obj) := (vl, listOf vs.toArray 0) :: (st, listOf sv.toArray 0) :: (dx, rmDict h1 h2 h3 t1 t2 t3 dv st vl) :: (r, instObj 278 dx) :: gg o'; Fr g L h' m → News g L h' n' → LCg.Off1 r news → LCg.Off1 dx ((r, instObj 278 dx) :: (st, listOf sv.toArray 0) :: (vl, listOf vs.toArray 0) :: news) → LCg.Off1 st news → LCg.Off1 vl news → P) : P :=
  let ⟨a, b, c, d, e, f⟩ := putnew_ledU F N U k f1 f2 f3 f4 g0 g1 g2 g3 g4
  go a b c d e f
theorem putold_T {g h h' : Heap} {L dx st vl : Addr} {m : Str → Option Value} {o o' : Obj} {news : List (Addr × Obj)} {gg : Obj → List (Addr × Obj)} {o3 o4 : Obj} {P : Prop} (F : Fr g L h m) (N : News g L h news) (U : UpdF dx o news gg) (k : KpX dx h h') (f3 : h.get? st = none) (f4 : h.get? vl = none)
    (g0 : h'.get? dx = some o') (g3 : h'.get? st = some o3) (g4 : h'.get? vl = some o4)
    (go : let n' : List (Addr × Obj) := (vl, o4) :: (st, o3) :: gg o'; Fr g L h' m → News g L h' n' → LCg.Off1 st news → LCg.Off1 vl news → P) : P :=
  let ⟨a, b, c, d⟩ := putold_ledU F N U k f3 f4 g0 g3 g4
  go a b c d
/-- the ledger under a name -/
theorem letNews {g h : Heap} {L : Addr} {led : List (Addr × Obj)} {P : Prop} (N : News g L h led) (k : let n' : List (Addr × Obj) := led; News g L h n' → P) : P := k N
theorem subMono : ∀ {l a b : List (Addr × Obj)}, (∀ p ∈ a, p ∈ b) → SubL l a → SubL l b
  | [], _, _, _, _ => trivial
  | _ :: _, _, _, h, x => ⟨h _ x.1, subMono h x.2⟩
theorem subCons {a : Addr × Obj} {l l' : List (Addr × Obj)} (h : SubL l l') : SubL (a :: l) (a :: l') := ⟨.head _, subMono (fun _ hp => .tail _ hp) h⟩
theorem subSkip {a : Addr × Obj} {l l' : List (Addr × Obj)} (h : SubL l l') : SubL l (a :: l') := subMono (fun _ hp => .tail _ hp) h
theorem subSelf : ∀ {l : List (Addr × Obj)}, SubL l l
  | [] => trivial
  | _ :: _ => subCons subSelf
local macro_rules | `(tactic| k_subL) => `(tactic| with_reducible first | exact trivial | exact subSelf | (refine subCons ?_; k_subL) | (refine subSkip ?_; k_subL) | fail "k_subL")
local macro_rules | `(tactic| k_ne) => `(tactic| first | (refine' off_at ?offa ?offm; (case offa => with_reducible assumption); (case offm => regstrif_slice)) | (refine' Ne.symm (off_at ?offa ?offm); (case offa => with_reducible assumption); (case offm => regstrif_slice)) | fail "k_ne")
theorem stored3 {r1 r2 r3 : Addr} : stored (stored (stored ([] : List (Str × Value)) (Str.ofString "ccc") (.ref r1)) (Str.ofString "dm") (.ref r2)) (Str.ofString "nfkc_cf") (.ref r3) = [(Str.ofString "ccc", .ref r1), (Str.ofString "dm", .ref r2), (Str.ofString "nfkc_cf", .ref r3)] := rfl
theorem ld_dat {w : World} {h : Heap} {rest : List (Addr × Obj)} {d dd df mp p q : Addr} {n : Nat} {c1 c2 c3 c4 : Int} {b1 b2 b3 b4 : Tok} {odf om : Obj} {kvs : List (Str × Value)} {r1 x1 s1 v1 r2 x2 s2 v2 r3 x3 s3 v3 T1 T2 T3 T4 T5 : Addr}
    {h11 h12 h13 h21 h22 h23 h31 h32 h33 : Int} {t11 t12 t13 t21 t22 t23 t31 t32 t33 u1 u2 u3 u4 u5 u6 u7 u8 u9 : Tok} {sv1 sv2 sv3 : List Value}
    (e : ∀ q ∈ rest, h.get? q.1 = some q.2) (S1 : odf.IsDictOf (PySem.strKind PR w) kvs) (S3 : valueAt kvs (Str.ofString "ex") = some (.bool false)) (lodf : (df == sysModules) = false)
    (I : om.IsDictOf (PySem.strKind PR w) (stored (stored (stored [] (Str.ofString "ccc") (.ref r1)) (Str.ofString "dm") (.ref r2)) (Str.ofString "nfkc_cf") (.ref r3))) (lomp : (mp == sysModules) = false)
    (i1 : IntsAre sv1 nsC) (i2 : IntsAre sv2 nsD) (i3 : IntsAre sv3 nsF)
    (m1 : (d, instObj 334 dd) ∈ rest) (m2 : (dd, dataDict c1 c2 c3 c4 b1 b2 b3 b4 df mp p q n) ∈ rest) (m3 : (df, odf) ∈ rest) (m4 : (mp, om) ∈ rest)
    (a1 : (r1, instObj 278 x1) ∈ rest) (a2 : (x1, rmDict h11 h12 h13 t11 t12 t13 (.int 0 u1) s1 v1) ∈ rest) (a3 : (s1, listOf sv1.toArray 0) ∈ rest) (a4 : (v1, listOf [Value.int 0 u2, .int 230 u3, .int 0 u4].toArray 0) ∈ rest)
    (b1' : (r2, instObj 278 x2) ∈ rest) (b2' : (x2, rmDict h21 h22 h23 t21 t22 t23 .none s2 v2) ∈ rest) (b3' : (s2, listOf sv2.toArray 0) ∈ rest) (b4' : (v2, listOf [Value.none, .ref T1, .none, .ref T2, .none, .ref T3, .none, .ref T4, .none, .ref T5, .none].toArray 0) ∈ rest)
    (d1 : (r3, instObj 278 x3) ∈ rest) (d2 : (x3, rmDict h31 h32 h33 t31 t32 t33 .none s3 v3) ∈ rest) (d3 : (s3, listOf sv3.toArray 0) ∈ rest) (d4 : (v3, listOf vsF.toArray 0) ∈ rest)
    (e1 : (T1, tupOf [.str (Str.ofString "") u5, .ref 342] 0) ∈ rest) (e2 : (T2, tupOf [.str (Str.ofString "") u6, .ref 341] 0) ∈ rest) (e3 : (T3, tupOf [.str (Str.ofString "compat") u7, .ref 345] 0) ∈ rest) (e4 : (T4, tupOf [.str (Str.ofString "compat") u8, .ref 346] 0) ∈ rest) (e5 : (T5, tupOf [.str (Str.ofString "compat") u9, .ref 344] 0) ∈ rest) :
    DAt w h d ⟨dd, df, mp, r1, x1, s1, v1, r2, x2, s2, v2, r3, x3, s3, v3, T1, T2, T3, T4, T5⟩ where
  inst := e _ m1
  dict := ⟨_, _, _, _, _, _, _, _, _, _, _, e _ m2⟩
  dflt := ⟨kvs, Heap.dictOf_iff.mpr ⟨odf, e _ m3, S1⟩, S3⟩
  lodf := lodf
  maps := Heap.dictOf_iff.mpr ⟨om, e _ m4, by rw [stored3] at I; exact I⟩
  lomp := lomp
  ccc := ⟨u2, u3, u4, u1, ⟨e _ a1, ⟨_, _, _, _, _, _, _, e _ a2⟩, ⟨_, _, e _ a3, i1⟩, ⟨_, e _ a4⟩⟩⟩
  dm := ⟨e _ b1', ⟨_, _, _, _, _, _, _, e _ b2'⟩, ⟨_, _, e _ b3', i2⟩, ⟨_, e _ b4'⟩⟩
  cf := ⟨e _ d1, ⟨_, _, _, _, _, _, _, e _ d2⟩, ⟨_, _, e _ d3, i3⟩, ⟨_, e _ d4⟩⟩
  t1 := ⟨_, _, e _ e1⟩
  t2 := ⟨_, _, e _ e2⟩
  t3 := ⟨_, _, e _ e3⟩
  t4 := ⟨_, _, e _ e4⟩
  t5 := ⟨_, _, e _ e5⟩
theorem ld_fresh {hs g h' : Heap} {L : Addr} {rest : List (Addr × Obj)} (hg : ∀ b o, hs.get? b = some o → b ∉ ([] : List (Addr × Obj)).map (·.1) → g.get? b = some o) (N : News g L h' rest) : ∀ q ∈ rest, hs.get? q.1 = none ∧ h'.get? q.1 = some q.2 := fun q hq => by
  refine ⟨?_, (N q hq).1⟩
  cases e : hs.get? q.1 with
  | none => rfl
  | some o =>
    have := hg _ _ e List.not_mem_nil
    rw [(N q hq).2.2] at this
    cases this
theorem ld_call {w : World} {A : Around} {s : Shared} {Q E : Value → Shared → Prop}
    (H : HereN w A s.heap []) (R : Room A 20)
    (ret : ∀ (d : Addr) (a : DP) (rest : List (Addr × Obj)) (h' : Heap) (tk' : Nat), Kp s.heap h' → (∀ q ∈ rest, s.heap.get? q.1 = none ∧ h'.get? q.1 = some q.2) → (∀ h : Heap, (∀ q ∈ rest, h.get? q.1 = some q.2) → DAt w h d a) → Q (.ref d) { s with heap := h', toks := tk' }) :
    wpAny (model PR w) A (call (.ref 370) []) Q E s := by
  have hat := H.at
  refine wpAny_call ?_
  k_dflt (refine' enterN ?enH41 ?enR41 ?en641 ?en741 ?en941 ?enB41 ?_ ?ec241 ?ec341 ?ec441 ?ec541; (case enH41 => assumption); (case enR41 => assumption); (case en641 => k_is); (case en741 => k_is); (case en941 => first | exact BindsTo.of_eq rfl | exact binds_K (by assumption) rfl (by k_is) rfl rfl rfl); (case ec541 => decide); (case enB41 => exact locs rfl); (case ec241 => exact rfl); (case ec341 => exact rfl); (case ec441 => exact rfl); k_whole; intro enq01 enq02 enq03 enq04 enq05 enq06 enq07 enq08 enq09 enq10 enq11 enq12 enq13 enq14 enq15 enq16 enq17 enq18 enq19 enq20 enq21 enq22 enq23 enq24 enq25 enq26 enq27 enq28 enq29 enq30 enq31 enq32 enq33; (try k_lt enq29); (try dsimp only); (try k_fold))
  clear H
  rename ∀ b o, s.heap.get? b = some o → _ => hg
  rename ∀ b o, _ → s.heap.get? b = some o => hs
  (repeat ((fail_if_success (with_reducible show wpAny _ _ (call (Value.ref 334) _) _ _ _)); walk1))
  k_dflt (refine' call_cls ?k1 ?k2 ?k3 ?k4 ?k5 ?k6 ?_; (case k1 => k_asm); (case k2 => k_asm); (case k3 => k_asm); (case k4 => k_is); (case k5 => k_is); (case k6 => k_is); k_whole; intro x' d' h' F' N' l1 l2; (try k_lt l1); (try k_lt2 l2); (try k_sweep))
  k_dflt k_enter
  refine with_room (by assumption) (Nat.le_refl _) (Nat.le_trans (Nat.le_of_eq (Nat.add_assoc _ _ _)) (Nat.add_le_add_left (Nat.le_of_ble_eq_true rfl) _)) ?_
  intro R2
  (repeat ((fail_if_success (with_reducible show wpAny _ _ (call (Value.ref 296) _) _ _ _)); walk1))
  rename Fr _ _ _ _ => F5
  rename News _ _ _ _ => N5
  refine dd_call (by ktr_rel) (Room.less (by assumption) (by decide)) ?_
  intro df odf n9 t9 h9 tk9 k9 fr9 g9 lo9 le9 S9
  have o9 := newOff N5 fr9
  have F9 := F5.keeps k9
  have N9 := newsAdd F5 N5 k9 fr9 g9
  clear F5 N5 k9 fr9 g9
  obtain ⟨kvs, S1, S2, S3, S4, S5, S6⟩ := S9
  (repeat ((fail_if_success (with_reducible show wpAny _ _ (call (Value.ref 317) _) _ _ _)); walk1))
  rename Fr _ _ _ _ => F5
  rename News _ _ _ _ => N5
  have N4 := News.tl (News.tl N5)
  obtain ⟨mp, emp⟩ : ∃ b, b = News.a0 N4 := ⟨_, rfl⟩
  obtain ⟨omp, eom⟩ : ∃ b, b = News.o0 N4 := ⟨_, rfl⟩
  have N3 := News.tl (News.tl N4)
  obtain ⟨d, ed⟩ : ∃ b, b = News.a0 N3 := ⟨_, rfl⟩
  have N2 := News.tl N3
  obtain ⟨dd, edd⟩ : ∃ b, b = News.a0 N2 := ⟨_, rfl⟩
  dsimp only [News.a0, News.o0] at emp eom ed edd
  subst emp eom ed edd
  clear N4 N3 N2
  obtain ⟨c1, c2, c3, c4, b1, b2, b3, b4, p, q, n, N6⟩ := ld_shape N5
  clear N5
  with_reducible rename Obj.IsDictOf (PySem.strKind PR w) omp [] => dmp
  revert F5 N6
  rename Fr _ _ _ _ => z1
  rename News _ _ _ _ => z2
  rename Below _ _ _ _ => z3
  rename Frag.In _ _ => z4
  rename Top _ _ _ _ _ _ => z5
  clear z1 z2 z3 z4 z5
  rename Frag.In _ _ => z4
  rename Top _ _ _ _ _ _ => z5
  clear z4 z5
  intro F5 N6
  have lomp : (mp == sysModules) = false := by assumption
  refine dputn_call (HereN.mk F5 N6 (fun p hp => by rw [List.mem_singleton.mp hp]; regstrif_slice) (by k_asm) (by k_asm) (by k_asm) (by k_asm) rfl) (Room.less (by assumption) (by decide)) (N6.get (by regstrif_slice)) (N6.get (by regstrif_slice)) (kda_dict N6 (by regstrif_slice) S1) lo9 S4 dmp lomp rfl (by decide) (by k_ne) (by k_ne) (by k_ne) (by decide) (by decide) (by decide) (by decide) (.inl ⟨_, _, rfl, rfl⟩) ?_
  intro r1 x1 s1 v1 om1 sv1 h11 h12 h13 t11 t12 t13 h8 tk8 k8 fr1 fx1 fs1 fv1 gm1 dm1 gr1 gx1 gs1 is1 gv1
  refine putnew_T F5 N6 (by k_updF) k8 fr1 fx1 fs1 fv1 gm1 gr1 gx1 gs1 gv1 ?_
  intro n8 F8 N8 f81 f82 f83 f84
  (try dsimp only at n8)
  clear F5 N6 k8 fr1 fx1 fs1 fv1 gm1 gr1 gx1 gs1 gv1
  (repeat ((fail_if_success (with_reducible show wpAny _ _ (call (Value.builtin _) [Value.ref 340]) _ _ _)); walk1)); k_dflt (refine' sortedK (q := [201, 233]) rfl ?soF42 ?soN42 (dK340 ?soX42) rfl ?son42 ?sop42 ?sos42 ?_; (case soF42 => k_asm); (case soN42 => k_asm); (case soX42 => k_in); (case son42 => decide); (case sop42 => decide); (case sos42 => decide)); intro soD42 vs42 c42 h42 tk42 F42 N42 soL42 hI42; (obtain ⟨_, _, soe42⟩ := ints2 hI42); subst soe42; clear hI42; (try k_lt soL42); (try k_sweep)
  (repeat ((fail_if_success (with_reducible show wpAny _ _ (subscriptTail _ _ (Value.ref 340) (Value.int _ _)) _ _ _)); walk1)); k_dflt (refine' hd_item (knd := intKind PR _) (dK340 ?suX45) (intKind_is _ _ _ _) ?sub45 ?_; (case suX45 => k_in); (case sub45 => rfl))
  (repeat ((fail_if_success (with_reducible show wpAny _ _ (call (Value.ref 317) _) _ _ _)); walk1))
  rename Fr _ _ _ _ => F5
  rename News _ _ _ _ => N5
  refine dputn_call (HereN.mk F5 N5 (fun p hp => by rw [List.mem_singleton.mp hp]; regstrif_slice) (by k_asm) (by k_asm) (by k_asm) (by k_asm) rfl) (Room.less (by assumption) (by decide)) (N5.get (by regstrif_slice)) (N5.get (by regstrif_slice)) (kda_dict N5 (by regstrif_slice) S1) lo9 S5 dm1 lomp (by rfl) (Nat.le_trans stored_len (by decide)) (by k_ne) (by k_ne) (by k_ne) (by decide) (by decide) (by decide) (by decide) (.inr ⟨rfl, _, _, _, rfl, N5.get (by regstrif_slice)⟩) ?_
  intro r2 x2 s20 v20 om2 sv20 h21 h22 h23 t21 t22 t23 h8 tk8 k8 fr1 fx1 fs1 fv1 gm1 dm2 gr1 gx1 gs1 is20 gv1
  refine putnew_T F5 N5 (by k_updF) k8 fr1 fx1 fs1 fv1 gm1 gr1 gx1 gs1 gv1 ?_
  intro n8 F8 N8 f11 f12 f13 f14
  (try dsimp only at n8)
  clear F5 N5 k8 fr1 fx1 fs1 fv1 gm1 gr1 gx1 gs1 gv1
  (repeat ((fail_if_success (with_reducible show wpAny _ _ (subscriptTail _ _ (Value.ref 340) (Value.int _ _)) _ _ _)); walk1)); k_dflt (refine' hd_item (knd := intKind PR _) (dK340 ?suX46) (intKind_is _ _ _ _) ?sub46 ?_; (case suX46 => k_in); (case sub46 => rfl))
  (repeat ((fail_if_success (with_reducible show wpAny _ _ (call (Value.ref 317) _) _ _ _)); walk1))
  rename Fr _ _ _ _ => F5
  rename News _ _ _ _ => N5
  refine dputo_call (HereN.mk F5 N5 (fun p hp => by rw [List.mem_singleton.mp hp]; regstrif_slice) (by k_asm) (by k_asm) (by k_asm) (by k_asm) rfl) (Room.less (by assumption) (by decide)) (N5.get (by regstrif_slice)) (N5.get (by regstrif_slice)) (kda_dict N5 (by regstrif_slice) dm2) lomp (by rfl) (by k_ne) (by k_ne) (N5.get (by regstrif_slice)) (N5.get (by regstrif_slice)) is20 (N5.get (by regstrif_slice)) (by decide) (by decide) (by decide +kernel) (by decide +kernel) (by decide) (by decide) (by rfl) (by rfl) (.inr ⟨rfl, _, _, _, rfl, N5.get (by regstrif_slice)⟩) ?_
  intro s21 v21 sv21 h8 tk8 k8 fs1 fv1 gx1 gs1 is21 gv1
  refine putold_T F5 N5 (by k_updF) k8 fs1 fv1 gx1 gs1 gv1 ?_
  intro n8 F8 N8 f21 f22
  dsimp only [List.cons_append, List.nil_append] at is21 n8
  clear F5 N5 k8 fs1 fv1 gx1 gs1 gv1
  (repeat ((fail_if_success (with_reducible show wpAny _ _ (call (Value.builtin _) [Value.ref 343]) _ _ _)); walk1)); k_dflt (refine' sortedK (q := [8544, 8560, 64257]) rfl ?soF43 ?soN43 (dK343 ?soX43) rfl ?son43 ?sop43 ?sos43 ?_; (case soF43 => k_asm); (case soN43 => k_asm); (case soX43 => k_in); (case son43 => decide); (case sop43 => decide); (case sos43 => decide)); intro soD43 vs43 c43 h43 tk43 F43 N43 soL43 hI43; (obtain ⟨_, _, _, soe43⟩ := ints3 hI43); subst soe43; clear hI43; (try k_lt soL43); (try k_sweep)
  (repeat ((fail_if_success (with_reducible show wpAny _ _ (subscriptTail _ _ (Value.ref 343) (Value.int _ _)) _ _ _)); walk1)); k_dflt (refine' hd_item (knd := intKind PR _) (dK343 ?suX47) (intKind_is _ _ _ _) ?sub47 ?_; (case suX47 => k_in); (case sub47 => rfl))
  (repeat ((fail_if_success (with_reducible show wpAny _ _ (call (Value.ref 317) _) _ _ _)); walk1))
  rename Fr _ _ _ _ => F5
  rename News _ _ _ _ => N5
  refine dputo_call (HereN.mk F5 N5 (fun p hp => by rw [List.mem_singleton.mp hp]; regstrif_slice) (by k_asm) (by k_asm) (by k_asm) (by k_asm) rfl) (Room.less (by assumption) (by decide)) (N5.get (by regstrif_slice)) (N5.get (by regstrif_slice)) (kda_dict N5 (by regstrif_slice) dm2) lomp (by rfl) (by k_ne) (by k_ne) (N5.get (by regstrif_slice)) (N5.get (by regstrif_slice)) is21 (N5.get (by regstrif_slice)) (by decide) (by decide) (by decide +kernel) (by decide +kernel) (by decide) (by decide) (by rfl) (by rfl) (.inr ⟨rfl, _, _, _, rfl, N5.get (by regstrif_slice)⟩) ?_
  intro s22 v22 sv22 h8 tk8 k8 fs1 fv1 gx1 gs1 is22 gv1
  refine putold_T F5 N5 (by k_updF) k8 fs1 fv1 gx1 gs1 gv1 ?_
  intro n8 F8 N8 f31 f32
  dsimp only [List.cons_append, List.nil_append] at is22 n8
  clear F5 N5 k8 fs1 fv1 gx1 gs1 gv1
  (repeat ((fail_if_success (with_reducible show wpAny _ _ (subscriptTail _ _ (Value.ref 343) (Value.int _ _)) _ _ _)); walk1)); k_dflt (refine' hd_item (knd := intKind PR _) (dK343 ?suX48) (intKind_is _ _ _ _) ?sub48 ?_; (case suX48 => k_in); (case sub48 => rfl))
  (repeat ((fail_if_success (with_reducible show wpAny _ _ (call (Value.ref 317) _) _ _ _)); walk1))
  rename Fr _ _ _ _ => F5
  rename News _ _ _ _ => N5
  refine dputo_call (HereN.mk F5 N5 (fun p hp => by rw [List.mem_singleton.mp hp]; regstrif_slice) (by k_asm) (by k_asm) (by k_asm) (by k_asm) rfl) (Room.less (by assumption) (by decide)) (N5.get (by regstrif_slice)) (N5.get (by regstrif_slice)) (kda_dict N5 (by regstrif_slice) dm2) lomp (by rfl) (by k_ne) (by k_ne) (N5.get (by regstrif_slice)) (N5.get (by regstrif_slice)) is22 (N5.get (by regstrif_slice)) (by decide) (by decide) (by decide +kernel) (by decide +kernel) (by decide) (by decide) (by rfl) (by rfl) (.inr ⟨rfl, _, _, _, rfl, N5.get (by regstrif_slice)⟩) ?_
  intro s23 v23 sv23 h8 tk8 k8 fs1 fv1 gx1 gs1 is23 gv1
  refine putold_T F5 N5 (by k_updF) k8 fs1 fv1 gx1 gs1 gv1 ?_
  intro n8 F8 N8 f41 f42
  dsimp only [List.cons_append, List.nil_append] at is23 n8
  clear F5 N5 k8 fs1 fv1 gx1 gs1 gv1
  (repeat ((fail_if_success (with_reducible show wpAny _ _ (subscriptTail _ _ (Value.ref 343) (Value.int _ _)) _ _ _)); walk1)); k_dflt (refine' hd_item (knd := intKind PR _) (dK343 ?suX49) (intKind_is _ _ _ _) ?sub49 ?_; (case suX49 => k_in); (case sub49 => rfl))
  (repeat ((fail_if_success (with_reducible show wpAny _ _ (call (Value.ref 317) _) _ _ _)); walk1))
  rename Fr _ _ _ _ => F5
  rename News _ _ _ _ => N5
  refine dputo_call (HereN.mk F5 N5 (fun p hp => by rw [List.mem_singleton.mp hp]; regstrif_slice) (by k_asm) (by k_asm) (by k_asm) (by k_asm) rfl) (Room.less (by assumption) (by decide)) (N5.get (by regstrif_slice)) (N5.get (by regstrif_slice)) (kda_dict N5 (by regstrif_slice) dm2) lomp (by rfl) (by k_ne) (by k_ne) (N5.get (by regstrif_slice)) (N5.get (by regstrif_slice)) is23 (N5.get (by regstrif_slice)) (by decide) (by decide) (by decide +kernel) (by decide +kernel) (by decide) (by decide) (by rfl) (by rfl) (.inr ⟨rfl, _, _, _, rfl, N5.get (by regstrif_slice)⟩) ?_
  intro s24 v24 sv24 h8 tk8 k8 fs1 fv1 gx1 gs1 is24 gv1
  refine putold_T F5 N5 (by k_updF) k8 fs1 fv1 gx1 gs1 gv1 ?_
  intro n8 F8 N8 f51 f52
  dsimp only [List.cons_append, List.nil_append] at is24 n8
  clear F5 N5 k8 fs1 fv1 gx1 gs1 gv1
  (repeat ((fail_if_success (with_reducible show wpAny _ _ (call (Value.builtin _) [Value.ref 347]) _ _ _)); walk1)); k_dflt (refine' sortedK (q := [69, 73, 201, 8544]) rfl ?soF44 ?soN44 (dK347 ?soX44) rfl ?son44 ?sop44 ?sos44 ?_; (case soF44 => k_asm); (case soN44 => k_asm); (case soX44 => k_in); (case son44 => decide); (case sop44 => decide); (case sos44 => decide)); intro soD44 vs44 c44 h44 tk44 F44 N44 soL44 hI44; (obtain ⟨_, _, _, _, soe44⟩ := ints4 hI44); subst soe44; clear hI44; (try k_lt soL44); (try k_sweep)
  (repeat ((fail_if_success (with_reducible show wpAny _ _ (subscriptTail _ _ (Value.ref 347) (Value.int _ _)) _ _ _)); walk1)); k_dflt (refine' hd_item (knd := intKind PR _) (dK347 ?suX50) (intKind_is _ _ _ _) ?sub50 ?_; (case suX50 => k_in); (case sub50 => rfl))
  (repeat ((fail_if_success (with_reducible show wpAny _ _ (call (Value.ref 317) _) _ _ _)); walk1))
  rename Fr _ _ _ _ => F5
  rename News _ _ _ _ => N5
  refine dputn_call (HereN.mk F5 N5 (fun p hp => by rw [List.mem_singleton.mp hp]; regstrif_slice) (by k_asm) (by k_asm) (by k_asm) (by k_asm) rfl) (Room.less (by assumption) (by decide)) (N5.get (by regstrif_slice)) (N5.get (by regstrif_slice)) (kda_dict N5 (by regstrif_slice) S1) lo9 S6 dm2 lomp (by rfl) (Nat.le_trans stored_len (Nat.succ_le_succ (Nat.le_trans stored_len (by decide)))) (by k_ne) (by k_ne) (by k_ne) (by decide) (by decide) (by decide) (by decide) (.inr ⟨rfl, 349, _, _, rfl, Fr.keep F5 _ _ ((by k_asm : (hd.heap_1 w.params).In _) _ _ (by k_is))⟩) ?_
  intro r3 x3 s30 v30 om3 sv30 h31 h32 h33 t31 t32 t33 h8 tk8 k8 fr1 fx1 fs1 fv1 gm1 dm3 gr1 gx1 gs1 is30 gv1
  refine putnew_T F5 N5 (by k_updF) k8 fr1 fx1 fs1 fv1 gm1 gr1 gx1 gs1 gv1 ?_
  intro n8 F8 N8 f61 f62 f63 f64
  (try dsimp only at n8)
  clear F5 N5 k8 fr1 fx1 fs1 fv1 gm1 gr1 gx1 gs1 gv1
  (repeat ((fail_if_success (with_reducible show wpAny _ _ (subscriptTail _ _ (Value.ref 347) (Value.int _ _)) _ _ _)); walk1)); k_dflt (refine' hd_item (knd := intKind PR _) (dK347 ?suX51) (intKind_is _ _ _ _) ?sub51 ?_; (case suX51 => k_in); (case sub51 => rfl))
  (repeat ((fail_if_success (with_reducible show wpAny _ _ (call (Value.ref 317) _) _ _ _)); walk1))
  rename Fr _ _ _ _ => F5
  rename News _ _ _ _ => N5
  refine dputo_call (HereN.mk F5 N5 (fun p hp => by rw [List.mem_singleton.mp hp]; regstrif_slice) (by k_asm) (by k_asm) (by k_asm) (by k_asm) rfl) (Room.less (by assumption) (by decide)) (N5.get (by regstrif_slice)) (N5.get (by regstrif_slice)) (kda_dict N5 (by regstrif_slice) dm3) lomp (by rfl) (by k_ne) (by k_ne) (N5.get (by regstrif_slice)) (N5.get (by regstrif_slice)) is30 (N5.get (by regstrif_slice)) (by decide) (by decide) (by decide +kernel) (by decide +kernel) (by decide) (by decide) (by rfl) (by rfl) (.inr ⟨rfl, 350, _, _, rfl, Fr.keep F5 _ _ ((by k_asm : (hd.heap_1 w.params).In _) _ _ (by k_is))⟩) ?_
  intro s31 v31 sv31 h8 tk8 k8 fs1 fv1 gx1 gs1 is31 gv1
  refine putold_T F5 N5 (by k_updF) k8 fs1 fv1 gx1 gs1 gv1 ?_
  intro n8 F8 N8 f71 f72
  dsimp only [List.cons_append, List.nil_append] at is31 n8
  clear F5 N5 k8 fs1 fv1 gx1 gs1 gv1
  (repeat ((fail_if_success (with_reducible show wpAny _ _ (subscriptTail _ _ (Value.ref 347) (Value.int _ _)) _ _ _)); walk1)); k_dflt (refine' hd_item (knd := intKind PR _) (dK347 ?suX52) (intKind_is _ _ _ _) ?sub52 ?_; (case suX52 => k_in); (case sub52 => rfl))
  (repeat ((fail_if_success (with_reducible show wpAny _ _ (call (Value.ref 317) _) _ _ _)); walk1))
  rename Fr _ _ _ _ => F5
  rename News _ _ _ _ => N5
  refine dputo_call (HereN.mk F5 N5 (fun p hp => by rw [List.mem_singleton.mp hp]; regstrif_slice) (by k_asm) (by k_asm) (by k_asm) (by k_asm) rfl) (Room.less (by assumption) (by decide)) (N5.get (by regstrif_slice)) (N5.get (by regstrif_slice)) (kda_dict N5 (by regstrif_slice) dm3) lomp (by rfl) (by k_ne) (by k_ne) (N5.get (by regstrif_slice)) (N5.get (by regstrif_slice)) is31 (N5.get (by regstrif_slice)) (by decide) (by decide) (by decide +kernel) (by decide +kernel) (by decide) (by decide) (by rfl) (by rfl) (.inr ⟨rfl, 351, _, _, rfl, Fr.keep F5 _ _ ((by k_asm : (hd.heap_1 w.params).In _) _ _ (by k_is))⟩) ?_
  intro s32 v32 sv32 h8 tk8 k8 fs1 fv1 gx1 gs1 is32 gv1
  refine putold_T F5 N5 (by k_updF) k8 fs1 fv1 gx1 gs1 gv1 ?_
  intro n8 F8 N8 f81 f82
  dsimp only [List.cons_append, List.nil_append] at is32 n8
  clear F5 N5 k8 fs1 fv1 gx1 gs1 gv1
  (repeat ((fail_if_success (with_reducible show wpAny _ _ (subscriptTail _ _ (Value.ref 347) (Value.int _ _)) _ _ _)); walk1)); k_dflt (refine' hd_item (knd := intKind PR _) (dK347 ?suX53) (intKind_is _ _ _ _) ?sub53 ?_; (case suX53 => k_in); (case sub53 => rfl))
  (repeat ((fail_if_success (with_reducible show wpAny _ _ (call (Value.ref 317) _) _ _ _)); walk1))
  rename Fr _ _ _ _ => F5
  rename News _ _ _ _ => N5
  refine dputo_call (HereN.mk F5 N5 (fun p hp => by rw [List.mem_singleton.mp hp]; regstrif_slice) (by k_asm) (by k_asm) (by k_asm) (by k_asm) rfl) (Room.less (by assumption) (by decide)) (N5.get (by regstrif_slice)) (N5.get (by regstrif_slice)) (kda_dict N5 (by regstrif_slice) dm3) lomp (by rfl) (by k_ne) (by k_ne) (N5.get (by regstrif_slice)) (N5.get (by regstrif_slice)) is32 (N5.get (by regstrif_slice)) (by decide) (by decide) (by decide +kernel) (by decide +kernel) (by decide) (by decide) (by rfl) (by rfl) (.inr ⟨rfl, 348, _, _, rfl, Fr.keep F5 _ _ ((by k_asm : (hd.heap_1 w.params).In _) _ _ (by k_is))⟩) ?_
  intro s33 v33 sv33 h8 tk8 k8 fs1 fv1 gx1 gs1 is33 gv1
  refine putold_T F5 N5 (by k_updF) k8 fs1 fv1 gx1 gs1 gv1 ?_
  intro n8 F8 N8 f91 f92
  dsimp only [List.cons_append, List.nil_append] at is33 n8
  clear F5 N5 k8 fs1 fv1 gx1 gs1 gv1
  (repeat' (first | (k_unfold; (try dsimp only)) | walk1 | (dsimp only; walk1) | (leave1; (try dsimp only))))
  rename Fr _ _ _ _ => F7
  rename News _ _ _ _ => N7
  (try dsimp only)
  refine' ret d _ _ _ _ (fun b o e => F7.keep _ _ (hg _ _ e List.not_mem_nil)) (ld_fresh hg N7) ?dat
  case dat =>
    intro h e
    refine' ld_dat e S1 S3 lo9 dm3 lomp is1 is24 is33 ?m1 ?m2 ?m3 ?m4 ?m5 ?m6 ?m7 ?m8 ?m9 ?m10 ?m11 ?m12 ?m13 ?m14 ?m15 ?m16 ?m17 ?m18 ?m19 ?m20 ?m21
    case m1 => regstrif_slice
    case m2 => regstrif_slice
    case m3 => regstrif_slice
    case m4 => regstrif_slice
    case m5 => regstrif_slice
    case m6 => regstrif_slice
    case m7 => regstrif_slice
    case m8 => regstrif_slice
    case m9 => regstrif_slice
    case m10 => regstrif_slice
    case m11 => regstrif_slice
    case m12 => regstrif_slice
    case m13 => regstrif_slice
    case m14 => regstrif_slice
    case m15 => regstrif_slice
    case m16 => regstrif_slice
    case m17 => regstrif_slice
    case m18 => regstrif_slice
    case m19 => regstrif_slice
    case m20 => regstrif_slice
    case m21 => regstrif_slice

end
section
theorem off_lco : True := by
  w_top off
  trivial
def lcJ (fF l9 : Addr) (vs9 : List Value) (n9 : Nat) (ys : List Int) (i : Nat) (m : Str → Option Value) (nx : List (Addr × Obj)) : Prop :=
  ∃ (vF : List Value) (nF : Nat), m (Str.ofString "found") = some (.ref fF) ∧ nx = [(l9, listOf vs9.toArray n9), (fF, listOf vF.toArray nF)] ∧ IntsAre vF ((ys.take i).foldl lcstep []) ∧ vF.length ≤ i
theorem ints_at {vs : List Value} {ns : List Int} (h : IntsAre vs ns) : ∀ {i : Nat} {v : Value}, vs[i]? = some v → ∃ n t, ns[i]? = some n ∧ v = .int n t := by
  induction h with
  | nil => intro i v e; simp at e
  | cons n t h ih =>
    intro i v e
    cases i with
    | zero => exact ⟨n, t, rfl, by simpa using e.symm⟩
    | succ i => exact ih (by simpa using e)
theorem ints_snocB {ns : List Int} : ∀ {vs : List Value} {x : Int}, IntsAre vs (ns ++ [x]) → ∃ r t, vs = r ++ [.int x t] ∧ IntsAre r ns := by
  induction ns with
  | nil =>
    intro vs x h
    obtain ⟨t, r, e, h1⟩ := ints_inv h
    exact ⟨[], t, by rw [e, ints_nil h1]; rfl, .nil⟩
  | cons n ns ih =>
    intro vs x h
    obtain ⟨t, r, e, h1⟩ := ints_inv h
    obtain ⟨r2, t2, e2, h2⟩ := ih h1
    exact ⟨.int n t :: r2, t2, by rw [e, e2]; rfl, .cons n t h2⟩
theorem snoc_cases : ∀ l : List Int, l = [] ∨ ∃ r x, l = r ++ [x]
  | [] => .inl rfl
  | a :: l => by
    rcases snoc_cases l with rfl | ⟨r, x, rfl⟩
    · exact .inr ⟨[], a, rfl⟩
    · exact .inr ⟨a :: r, x, rfl⟩
theorem at_last {vl : List Value} {v : Value} : (vl ++ [v])[(-1 + ((vl.length : Int) + 1)).toNat]? = some v := by
  rw [show (-1 + ((vl.length : Int) + 1)).toNat = vl.length by omega]
  simp
theorem set_last {prog : Program} {w : World} {A : Around} {E : Value → Shared → Prop} {s : Shared} {h₀ : Heap} {L D : Addr} {m : Str → Option Value} {news news' : List (Addr × Obj)} {vl : List Value} {a v : Value} {n : Nat} {u : Tok} {Q : Unit → Shared → Prop} (F : Fr h₀ L s.heap m) (N : News h₀ L s.heap news)
    (U : Upd D (listOf (vl ++ [a]).toArray n) (listOf (vl ++ [v]).toArray n) news news') (h : ∀ h', Fr h₀ L h' m → News h₀ L h' news' → Q () { s with heap := h' }) : wpAny (model prog w) A (setItem (.ref D) (.int (-1) u) v) Q E s := by
  refine ki_setNeg (j := vl.length) (q := vl ++ [v]) F N (by decide) (by decide) ?_ ?_ U h
  · unfold seqIndex?
    simp
    omega
  · rw [List.toList_toArray, setL_of (by simp)]
    simp
theorem item_last {prog : Program} {w : World} {A : Around} {E : Value → Shared → Prop} {s : Shared} {value slice : PySem.Expr} {l : Addr} {vl : List Value} {v : Value} {u : Tok} {Q : Value → Shared → Prop} (hl : s.heap.IsList l (vl ++ [v]).toArray) (h : Q v s)
    (hs : subscripted slice false (.ref l) (.int (-1) u) = operate [.ref l, .int (-1) u] (getItem (.ref l) (.int (-1) u)) := by with_unfolding_all rfl) (hg : ∀ r, letTemporaryGo value (.ref l) r = pure () := by intro _; with_unfolding_all rfl) :
    wpAny (model prog w) A (subscriptTail value slice (.ref l) (.int (-1) u)) Q E s :=
  subscriptTail_builtin hl.typeIs slot_list_getitem.lookup (wpAny_getItem_list_neg hl (by decide) (by simp; omega) (by decide) (by simpa using at_last) h) hs hg
theorem lc_101 {fl : List Int} : lcstep (fl ++ [101]) 769 = fl ++ [233] := by simp [lcstep]
theorem lc_69 {fl : List Int} : lcstep (fl ++ [69]) 769 = fl ++ [201] := by simp [lcstep]
theorem lc_o {fl : List Int} {x : Int} (h1 : x ≠ 101) (h2 : x ≠ 69) : lcstep (fl ++ [x]) 769 = fl ++ [x] ++ [769] := by simp [lcstep, h1, h2]
theorem lco_end {g h h2 : Heap} {L fF l9 : Addr} {m : Str → Option Value} {ys : List Int} {i : Nat} {c : Int} {vs9 vF : List Value} {n9 n1 : Nat} {own all : List (Addr × Obj)} {gs : Array GenState} {dr : Drawn} {os : OsState} {tk tk2 : Nat}
    (F7 : Fr g L h m) (N7 : News g L h all) (m0 : (l9, listOf vs9.toArray n9) ∈ all) (m1 : (fF, listOf vF.toArray n1) ∈ all) (hall : ∀ p ∈ own, p ∈ all) (mf : m (Str.ofString "found") = some (.ref fF))
    {fs : List Int} (hx : ys[i]? = some c) (hfs : fs = (ys.take i).foldl lcstep []) (i1 : IntsAre vF (lcstep fs c)) (i2 : vF.length ≤ i + 1) (hoff : OwnOff own [l9, fF]) :
    InvEndG g L (fun m' nx => (l9, listOf vs9.toArray n9) ∈ nx ∧ lcJ fF l9 vs9 n9 ys (i + 1) m' nx) own ⟨h2, gs, dr, tk2, os⟩ ⟨h, gs, dr, tk, os⟩ := by
  refine InvEndG.intro F7 N7 (nx := [(l9, listOf vs9.toArray n9), (fF, listOf vF.toArray n1)]) ⟨.head _, vF, n1, mf, rfl, ?_, i2⟩ hoff (fun p hp => ?_) hall
  · rw [take_snoc hx, List.foldl_append, ← hfs]; exact i1
  · rcases List.mem_cons.mp hp with rfl | hp
    · exact m0
    · rw [List.mem_singleton.mp hp]; exact m1
theorem lco_call {w : World} {A : Around} {s : Shared} {Q E : Value → Shared → Prop} {l : Addr} {vs : List Value} {n : Nat} {ns : List Int}
    (H : Here w A s.heap) (R : Room A 2) (hl : s.heap.get? l = some (listOf vs.toArray n)) (hi : IntsAre vs ns) (hlen : ns.length < 100)
    (ret : ∀ (l : Addr) (vs : List Value) (n : Nat) (h' : Heap) (tk' : Nat), Kp s.heap h' → s.heap.get? l = none → h'.get? l = some (listOf vs.toArray n) → IntsAre vs ((ns.flatMap expF).foldl lcstep []) → Q (.ref l) { s with heap := h', toks := tk' }) :
    wpAny (model PR w) A (call (.ref 384) [.ref l]) Q E s := by
  have hX := H.inn
  refine wpAny_call ?_
  k_dflt (refine' enterP ?enH54 ?enR54 ?en654 ?en754 ?en954 ?enB54 ?_ ?ec254 ?ec354 ?ec454 ?ec554; (case enH54 => assumption); (case enR54 => assumption); (case en654 => k_is); (case en754 => k_is); (case en954 => first | exact BindsTo.of_eq rfl | exact binds_K (by assumption) rfl (by k_is) rfl rfl rfl); (case ec554 => decide); (case enB54 => exact locs rfl); (case ec254 => exact rfl); (case ec354 => exact rfl); (case ec454 => exact rfl); k_whole; intro enq01 enq02 enq03 enq04 enq05 enq06 enq07 enq08 enq09 enq10 enq11 enq12 enq13 enq14 enq15 enq16 enq17 enq18 enq19 enq20 enq21 enq22 enq23 enq24 enq25 enq26 enq27 enq28; (try dsimp only); (try k_fold))
  clear H
  (repeat ((fail_if_success (with_reducible show wpAny _ _ (call (Value.ref 377) _) _ _ _)); walk1))
  rename Fr _ _ _ _ => F5
  rename News _ _ _ _ => N5
  refine lawby_call (f := expF) (by ktr_rel) (Room.less (by assumption) (by decide)) (dK340 (Frag.In.keeps hX F5.keep)) (by rfl) (F5.keep _ _ hl) hi (fun x _ => told340 (Frag.In.keeps hX F5.keep) x) hlen ?_
  intro l9 vs9 n9 h9 tk9 k9 fr9 g9 i9 z9
  have o9 := newOff N5 fr9
  have F9 := F5.keeps k9
  have N9 := newsAdd F5 N5 k9 fr9 g9
  clear F5 N5 k9 fr9 g9
  obtain ⟨fF, hfF⟩ : ∃ fF, fF = News.a1 N9 := ⟨_, rfl⟩
  have q9 : @Ne Nat l9 fF := by
    rw [hfF]
    exact Ne.symm o9.1
  refine kdl_iter (lcJ fF l9 vs9 n9 (ns.flatMap expF)) rfl (.head _) (by k_asm) N9 ?hj ?turn ?done
  case hj => subst hfF; exact ⟨[], 0, by k_dflt rfl, rfl, .nil, Nat.le_refl _⟩
  case turn =>
    clear hfF N9
    rintro i v m₁ nx h tk own hx hoff _ ⟨vF, nF, mf, rfl, i1, i2⟩ F1 N1
    obtain ⟨c, t, hc, rfl⟩ := ints_at i9 hx
    have hil : i < (ns.flatMap expF).length := (List.getElem?_eq_some_iff.mp hc).1
    dsimp only [envOf, List.cons_append, List.nil_append, List.map] at F1 N1 hoff
    k_sweep
    replace F1 := Fr.know F1 (x := Str.ofString "found") (by k_dflt (exact mf))
    obtain ⟨fs, hfs⟩ : ∃ fs, fs = (List.take i (ns.flatMap expF)).foldl lcstep [] := ⟨_, rfl⟩
    rw [← hfs] at i1
    have hY : (ns.flatMap expF).length ≤ 200 := by
      have := i9.length
      omega
    have hvi : vF.length < 300 := by omega
    by_cases hc1 : c = 769
    · subst hc1
      rcases snoc_cases fs with rfl | ⟨fl, x, rfl⟩
      · have e0 := ints_nil i1
        subst e0
        (repeat' (first | (k_unfold; (try dsimp only)) | ((with_reducible show wpAny _ _ (setItem (Value.ref _) (Value.int (-1) _) _) _ _ _); k_dflt (refine' set_last (by k_asm) (by k_asm) (by k_upd) ?_); intro h' F' N'; k_sweep) | ((with_reducible show wpAny _ _ (subscriptTail _ _ (Value.ref _) (Value.int (-1) _)) _ _ _); k_dflt (refine' item_last (by exact News.isList (by k_asm) (by k_mem)) ?_)) | walk1 | (dsimp only; walk1) | (leave1; (try dsimp only))))
        all_goals first
          | (exact absurd (by assumption) (by decide))
          | (rename Fr _ _ _ _ => F7; rename News _ _ _ _ => N7; (try simp only [List.push_toArray, List.nil_append] at N7); exact lco_end (vF := [.int 769 t]) F7 N7 (by k_mem) (by k_mem) (fun p hp => by first | exact hp | exact .tail _ hp | exact .tail _ (.tail _ hp) | exact .tail _ (.tail _ (.tail _ hp)) | exact .tail _ (.tail _ (.tail _ (.tail _ hp))) | exact .tail _ (.tail _ (.tail _ (.tail _ (.tail _ hp)))) | exact .tail _ (.tail _ (.tail _ (.tail _ (.tail _ (.tail _ hp)))))) (by k_dflt rfl) hc hfs (.cons _ _ .nil) (Nat.le_add_left _ _) hoff)
      · obtain ⟨vl, tx, rfl, il⟩ := ints_snocB i1
        have il2 := il.length
        simp only [List.length_append, List.length_cons, List.length_nil] at hvi
        have hne : ¬ (decide (fl ++ [x] = []) = true) := by simp
        by_cases h1 : x = 101
        · subst h1
          (repeat' (first | (k_unfold; (try dsimp only)) | ((with_reducible show wpAny _ _ (setItem (Value.ref _) (Value.int (-1) _) _) _ _ _); k_dflt (refine' set_last (by k_asm) (by k_asm) (by k_upd) ?_); intro h' F' N'; k_sweep) | ((with_reducible show wpAny _ _ (subscriptTail _ _ (Value.ref _) (Value.int (-1) _)) _ _ _); k_dflt (refine' item_last (by exact News.isList (by k_asm) (by k_mem)) ?_)) | walk1 | (dsimp only; walk1) | (leave1; (try dsimp only))))
          all_goals first
            | (exact absurd (by assumption) hne)
            | (rename Fr _ _ _ _ => F7; rename News _ _ _ _ => N7; (try simp only [List.push_toArray, List.nil_append] at N7); exact lco_end (vF := vl ++ [.int 233 _]) F7 N7 (by k_mem) (by k_mem) (fun p hp => by first | exact hp | exact .tail _ hp | exact .tail _ (.tail _ hp) | exact .tail _ (.tail _ (.tail _ hp)) | exact .tail _ (.tail _ (.tail _ (.tail _ hp))) | exact .tail _ (.tail _ (.tail _ (.tail _ (.tail _ hp)))) | exact .tail _ (.tail _ (.tail _ (.tail _ (.tail _ (.tail _ hp)))))) (by k_dflt rfl) hc hfs (by rw [lc_101]; exact ints_snoc (n := 233) il) (by rw [List.length_append] at i2 ⊢; exact Nat.le_succ_of_le i2) hoff)
        · by_cases h2 : x = 69
          · subst h2
            (repeat' (first | (k_unfold; (try dsimp only)) | ((with_reducible show wpAny _ _ (setItem (Value.ref _) (Value.int (-1) _) _) _ _ _); k_dflt (refine' set_last (by k_asm) (by k_asm) (by k_upd) ?_); intro h' F' N'; k_sweep) | ((with_reducible show wpAny _ _ (subscriptTail _ _ (Value.ref _) (Value.int (-1) _)) _ _ _); k_dflt (refine' item_last (by exact News.isList (by k_asm) (by k_mem)) ?_)) | walk1 | (dsimp only; walk1) | (leave1; (try dsimp only))))
            all_goals first
              | (exact absurd (by assumption) hne)
              | (rename Fr _ _ _ _ => F7; rename News _ _ _ _ => N7; (try simp only [List.push_toArray, List.nil_append] at N7); exact lco_end (vF := vl ++ [.int 201 _]) F7 N7 (by k_mem) (by k_mem) (fun p hp => by first | exact hp | exact .tail _ hp | exact .tail _ (.tail _ hp) | exact .tail _ (.tail _ (.tail _ hp)) | exact .tail _ (.tail _ (.tail _ (.tail _ hp))) | exact .tail _ (.tail _ (.tail _ (.tail _ (.tail _ hp)))) | exact .tail _ (.tail _ (.tail _ (.tail _ (.tail _ (.tail _ hp)))))) (by k_dflt rfl) hc hfs (by rw [lc_69]; exact ints_snoc (n := 201) il) (by rw [List.length_append] at i2 ⊢; exact Nat.le_succ_of_le i2) hoff)
          · have hany : ¬ ((([101, 69] : List Int).any fun y => y == x) = true) := by
              simp only [List.any_cons, List.any_nil, Bool.or_false, Bool.or_eq_true, beq_iff_eq]
              omega
            (repeat' (first | (k_unfold; (try dsimp only)) | ((with_reducible show wpAny _ _ (setItem (Value.ref _) (Value.int (-1) _) _) _ _ _); k_dflt (refine' set_last (by k_asm) (by k_asm) (by k_upd) ?_); intro h' F' N'; k_sweep) | ((with_reducible show wpAny _ _ (subscriptTail _ _ (Value.ref _) (Value.int (-1) _)) _ _ _); k_dflt (refine' item_last (by exact News.isList (by k_asm) (by k_mem)) ?_)) | walk1 | (dsimp only; walk1) | (leave1; (try dsimp only))))
            all_goals first
              | (exact absurd (by assumption) hany)
              | (exact absurd (by assumption) h1)
              | (exact absurd (by assumption) hne)
              | (rename Fr _ _ _ _ => F7; rename News _ _ _ _ => N7; (try simp only [List.push_toArray, List.nil_append] at N7); exact lco_end (vF := vl ++ [.int x tx] ++ [.int 769 t]) F7 N7 (by k_mem) (by k_mem) (fun p hp => by first | exact hp | exact .tail _ hp | exact .tail _ (.tail _ hp) | exact .tail _ (.tail _ (.tail _ hp)) | exact .tail _ (.tail _ (.tail _ (.tail _ hp))) | exact .tail _ (.tail _ (.tail _ (.tail _ (.tail _ hp)))) | exact .tail _ (.tail _ (.tail _ (.tail _ (.tail _ (.tail _ hp)))))) (by k_dflt rfl) hc hfs (by rw [lc_o h1 h2]; exact ints_snoc i1) (by rw [List.length_append]; exact Nat.succ_le_succ i2) hoff)
    · (repeat' (first | (k_unfold; (try dsimp only)) | ((with_reducible show wpAny _ _ (setItem (Value.ref _) (Value.int (-1) _) _) _ _ _); k_dflt (refine' set_last (by k_asm) (by k_asm) (by k_upd) ?_); intro h' F' N'; k_sweep) | ((with_reducible show wpAny _ _ (subscriptTail _ _ (Value.ref _) (Value.int (-1) _)) _ _ _); k_dflt (refine' item_last (by exact News.isList (by k_asm) (by k_mem)) ?_)) | walk1 | (dsimp only; walk1) | (leave1; (try dsimp only))))
      all_goals first
        | (exact absurd (by assumption) hc1)
        | (rename Fr _ _ _ _ => F7; rename News _ _ _ _ => N7; (try simp only [List.push_toArray, List.nil_append] at N7); exact lco_end (vF := vF ++ [.int c t]) F7 N7 (by k_mem) (by k_mem) (fun p hp => by first | exact hp | exact .tail _ hp | exact .tail _ (.tail _ hp) | exact .tail _ (.tail _ (.tail _ hp)) | exact .tail _ (.tail _ (.tail _ (.tail _ hp))) | exact .tail _ (.tail _ (.tail _ (.tail _ (.tail _ hp)))) | exact .tail _ (.tail _ (.tail _ (.tail _ (.tail _ (.tail _ hp)))))) (by k_dflt rfl) hc hfs (by rw [lcstep_ne hc1]; exact ints_snoc i1) (by rw [List.length_append]; exact Nat.succ_le_succ i2) hoff)
  case done =>
    clear hfF N9
    rintro m₁ nx h tk ⟨vF, nF, mf, rfl, i1, i2⟩ F1 N1
    rw [i9.length, List.take_length] at i1
    dsimp only [envOf] at F1 N1
    k_sweep
    replace F1 := Fr.know F1 (x := Str.ofString "found") mf
    (repeat' (first | (k_unfold; (try dsimp only)) | ((with_reducible show wpAny _ _ (setItem (Value.ref _) (Value.int (-1) _) _) _ _ _); k_dflt (refine' set_last (by k_asm) (by k_asm) (by k_upd) ?_); intro h' F' N'; k_sweep) | ((with_reducible show wpAny _ _ (subscriptTail _ _ (Value.ref _) (Value.int (-1) _)) _ _ _); k_dflt (refine' item_last (by exact News.isList (by k_asm) (by k_mem)) ?_)) | walk1 | (dsimp only; walk1) | (leave1; (try dsimp only))))
    rename Fr _ _ _ _ => F7
    rename News _ _ _ _ => N7
    exact ret fF vF nF _ _ F7.keep (N7.fresh (.tail _ (.head _))) (N7.get (.tail _ (.head _))) i1

end
section
theorem off_lfo : True := by
  w_top off
  trivial
/-- the law's folding, as a function -/
def foldF (ns : List Int) : List Int := ((ns.map cfI).flatMap expF).foldl lcstep []
theorem flatMap_one {f : Int → Int} : ∀ ns : List Int, ns.flatMap (fun c => [f c]) = ns.map f
  | [] => rfl
  | _ :: r => by rw [List.flatMap_cons, flatMap_one r]; rfl
theorem lfo_call {w : World} {A : Around} {s : Shared} {Q E : Value → Shared → Prop} {l : Addr} {vs : List Value} {n : Nat} {ns : List Int}
    (H : Here w A s.heap) (R : Room A 4) (hl : s.heap.get? l = some (listOf vs.toArray n)) (hi : IntsAre vs ns) (hlen : ns.length < 50)
    (ret : ∀ (l : Addr) (vs : List Value) (n : Nat) (h' : Heap) (tk' : Nat), Kp s.heap h' → s.heap.get? l = none → h'.get? l = some (listOf vs.toArray n) → IntsAre vs (foldF ns) → Q (.ref l) { s with heap := h', toks := tk' }) :
    wpAny (model PR w) A (call (.ref 391) [.ref l]) Q E s := by
  have hX := H.inn
  refine wpAny_call ?_
  k_dflt (refine' enterP ?enH55 ?enR55 ?en655 ?en755 ?en955 ?enB55 ?_ ?ec255 ?ec355 ?ec455 ?ec555; (case enH55 => assumption); (case enR55 => assumption); (case en655 => k_is); (case en755 => k_is); (case en955 => first | exact BindsTo.of_eq rfl | exact binds_K (by assumption) rfl (by k_is) rfl rfl rfl); (case ec555 => decide); (case enB55 => exact locs rfl); (case ec255 => exact rfl); (case ec355 => exact rfl); (case ec455 => exact rfl); k_whole; intro enq01 enq02 enq03 enq04 enq05 enq06 enq07 enq08 enq09 enq10 enq11 enq12 enq13 enq14 enq15 enq16 enq17 enq18 enq19 enq20 enq21 enq22 enq23 enq24 enq25 enq26 enq27 enq28; (try dsimp only); (try k_fold))
  clear H
  (repeat ((fail_if_success (with_reducible show wpAny _ _ (call (Value.ref 377) _) _ _ _)); walk1))
  rename Fr _ _ _ _ => F5
  rename News _ _ _ _ => N5
  refine lawby_call (f := fun c => [cfI c]) (by ktr_rel) (Room.less (by assumption) (by decide)) (dK347 (Frag.In.keeps hX F5.keep)) (by rfl) (F5.keep _ _ hl) hi (fun x _ => told347 (Frag.In.keeps hX F5.keep) x) (by omega) ?_
  intro l9 vs9 n9 h9 tk9 k9 fr9 g9 i9 z9
  rw [flatMap_one] at i9
  have F9 := F5.keeps k9
  have N9 := newsAdd F5 N5 k9 fr9 g9
  clear F5 N5 k9 fr9 g9
  (repeat ((fail_if_success (with_reducible show wpAny _ _ (call (Value.ref 384) _) _ _ _)); walk1))
  rename Fr _ _ _ _ => F5
  rename News _ _ _ _ => N5
  refine lco_call (by ktr_rel) (Room.less (by assumption) (by decide)) (N5.get (by k_mem)) i9 (by rw [List.length_map]; omega) ?_
  intro l8 vs8 n8 h8 tk8 k8 fr8 g8 i8
  have k7 : Kp s.heap h8 := fun b o e => k8 _ _ (F5.keep _ _ e)
  have f7 : s.heap.get? l8 = none := by
    cases q : s.heap.get? l8 with
    | none => rfl
    | some o => rw [F5.keep _ _ q] at fr8; cases fr8
  (repeat' (first | (k_unfold; (try dsimp only)) | walk1 | (dsimp only; walk1) | (leave1; (try dsimp only))))
  exact ret l8 vs8 n8 h8 _ k7 f7 g8 i8

end
section
theorem off_deck : True := by
  w_top off
  trivial
/-- the law's deck as a dict -/
def DeckO (w : World) (o : Obj) (l : Addr) (x : Int) (t : Tok) : Prop := o.IsDictOf (PySem.strKind PR w) [(Str.ofString "left", .ref l), (Str.ofString "mixed", .int x t)]
def dkJ (lL : Addr) (nx0 : List (Addr × Obj)) (_ : Nat) (m : Str → Option Value) (nx : List (Addr × Obj)) : Prop :=
  nx = nx0 ∧ m (Str.ofString "left") = some (.ref lL) ∧ ∃ x t, m (Str.ofString "mixed") = some (.int x t) ∧ 0 ≤ x ∧ x < 1000003
theorem led2 {g h : Heap} {L : Addr} {p q : Addr × Obj} {r : List (Addr × Obj)} (N : News g L h (p :: q :: r)) : ∃ nx0, nx0 = p :: q :: r ∧ q ∈ nx0 ∧ News g L h nx0 := ⟨_, rfl, .tail _ (.head _), N⟩
abbrev News.all {g h : Heap} {L : Addr} {r : List (Addr × Obj)} (_ : News g L h r) : List (Addr × Obj) := r
theorem dk_end {g h h2 : Heap} {L lL : Addr} {m : Str → Option Value} {i : Nat} {nx0 : List (Addr × Obj)} {vs9 : List Value} {n9 : Nat} {x : Int} {t : Tok} {own all : List (Addr × Obj)} {gs : Array GenState} {dr : Drawn} {os : OsState} {tk tk2 : Nat}
    (F7 : Fr g L h m) (N7 : News g L h all) (m0 : (lL, listOf vs9.toArray n9) ∈ nx0) (hall : ∀ p ∈ nx0, p ∈ all) (hown : ∀ p ∈ own, p ∈ all) (ml : m (Str.ofString "left") = some (.ref lL)) (mm : m (Str.ofString "mixed") = some (.int x t)) (h0 : 0 ≤ x) (h1 : x < 1000003) (hoff : OwnOff own (nx0.map (·.1))) :
    InvEndG g L (fun m' nx => (lL, listOf vs9.toArray n9) ∈ nx ∧ dkJ lL nx0 (i + 1) m' nx) own ⟨h2, gs, dr, tk2, os⟩ ⟨h, gs, dr, tk, os⟩ :=
  InvEndG.intro F7 N7 (nx := nx0) ⟨m0, rfl, ml, x, t, mm, h0, h1⟩ hoff hall hown
theorem deck_call {w : World} {A : Around} {s : Shared} {Q E : Value → Shared → Prop} {l : Addr} {vs : List Value} {ns : List Int}
    (H : Here w A s.heap) (R : Room A 4) (hl : s.heap.IsList l vs.toArray) (hi : IntsAre vs ns) (hlen : ns.length ≤ 63)
    (ret : ∀ (D l : Addr) (o : Obj) (ys : List Value) (n : Nat) (ns' : List Int) (x : Int) (t : Tok) (h' : Heap) (tk' : Nat), Kp s.heap h' → s.heap.get? D = none → s.heap.get? l = none → h'.get? D = some o → DeckO w o l x t → 0 ≤ x → h'.get? l = some (listOf ys.toArray n) → IntsAre ys ns' → ns'.length ≤ 20 → (D == sysModules) = false → @Ne Nat l D → Q (.ref D) { s with heap := h', toks := tk' }) :
    wpAny (model PR w) A (call (.ref 356) [.ref l]) Q E s := by
  refine wpAny_call ?_
  k_dflt (refine' enterP ?enH56 ?enR56 ?en656 ?en756 ?en956 ?enB56 ?_ ?ec256 ?ec356 ?ec456 ?ec556; (case enH56 => assumption); (case enR56 => assumption); (case en656 => k_is); (case en756 => k_is); (case en956 => first | exact BindsTo.of_eq rfl | exact binds_K (by assumption) rfl (by k_is) rfl rfl rfl); (case ec556 => decide); (case enB56 => exact locs rfl); (case ec256 => exact rfl); (case ec356 => exact rfl); (case ec456 => exact rfl); k_whole; intro enq01 enq02 enq03 enq04 enq05 enq06 enq07 enq08 enq09 enq10 enq11 enq12 enq13 enq14 enq15 enq16 enq17 enq18 enq19 enq20 enq21 enq22 enq23 enq24 enq25 enq26 enq27 enq28; (try dsimp only); (try k_fold))
  clear H
  (repeat ((fail_if_success (with_reducible show wpAny _ _ (exec (Stmt.For _ _ _ _ _) _) _ _ _)); walk1))
  ((rename Fr _ _ _ _ => lF'); (with_unfolding_all refine' For_invVF lF' ?fi1 ?fi2 ?_; (case fi1 => exact rfl); (case fi2 => exact rfl); k_whole))
  walk1
  rename Fr _ _ _ _ => F5
  rename News _ _ _ _ => N5
  rename IntsAre _ (List.map _ _) => hY
  have N4 := News.tl N5
  obtain ⟨lL, eL⟩ : ∃ b, b = News.a0 N4 := ⟨_, rfl⟩
  dsimp only [News.a0] at eL
  subst eL
  clear N4
  obtain ⟨nx0, e0, m0, N6⟩ := led2 N5
  refine kdl_iter (dkJ lL nx0) rfl m0 F5 N6 ?hj ?turn ?done
  case hj => exact ⟨rfl, by k_dflt rfl, 1507, _, by k_dflt rfl, by decide, by decide⟩
  case turn =>
    rintro i v m₁ nx h tk own hx hoff _ ⟨rfl, ml, x, t, mx, x0, x1⟩ F1 N1
    obtain ⟨c, t, hc, rfl⟩ := ints_at hY hx
    dsimp only [envOf] at F1 N1
    k_sweep
    replace F1 := Fr.know (Fr.know F1 (x := Str.ofString "mixed") (by k_dflt (exact mx))) (x := Str.ofString "left") (by k_dflt (exact ml))
    (repeat' (first | (k_unfold; (try dsimp only)) | walk1 | (dsimp only; walk1) | (leave1; (try dsimp only))))
    rename Fr _ _ _ _ => F7
    rename News _ _ _ _ => N7
    exact dk_end F7 N7 m0 (fun p hp => List.mem_append_left _ hp) (fun p hp => List.mem_append_right _ hp) (by k_dflt rfl) (by k_dflt rfl) (Int.fmod_nonneg_of_pos _ (by decide)) (Int.fmod_lt_of_pos _ (by decide)) hoff
  case done =>
    rintro m₁ nx h tk ⟨rfl, ml, x, t, mx, x0, x1⟩ F1 N1
    dsimp only [envOf] at F1 N1
    rw [e0] at N1
    clear e0 m0 F5 N5 N6
    k_sweep
    replace F1 := Fr.know (Fr.know F1 (x := Str.ofString "mixed") mx) (x := Str.ofString "left") ml
    (repeat' (first | (k_unfold; (try dsimp only)) | walk1 | (dsimp only; walk1) | (leave1; (try dsimp only))))
    (try dsimp only)
    rename Fr _ _ _ _ => F7
    rename News _ _ _ _ => N7
    with_reducible rename Obj.IsDictOf _ _ _ => d7
    exact ret _ lL _ ys _ _ x t _ _ F7.keep (N7.fresh (.head _)) (N7.fresh (.tail _ (.tail _ (.head _)))) (N7.get (.head _)) d7 x0 (N7.get (.tail _ (.tail _ (.head _)))) hY (by rw [List.length_map, List.length_take]; omega) (by assumption) (by k_ne)

end
section
theorem off_draw : True := by
  w_top off
  trivial
local macro_rules | `(tactic| walk_at "newList") => `(tactic| (k_dflt (refine' newList_K ?k1 ?k2 ?_; (case k1 => k_asm); (case k2 => k_asm); k_whole); intro l' h' F' N' l1; (try k_sweep)))
/-- all but two objects stay -/
abbrev KpXX (X Y : Addr) (h h' : Heap) : Prop := ∀ b o, @Ne Nat b X → @Ne Nat b Y → h.get? b = some o → h'.get? b = some o
/-- the deck: a dict at D, its list at l -/
structure Deck (w : World) (h : Heap) (D l : Addr) (o ol : Obj) : Prop where
  at_ : h.get? D = some o
  dict : ∃ x t, DeckO w o l x t ∧ 0 ≤ x
  lat : h.get? l = some ol
  list : ∃ ys n ns, ol = listOf ys.toArray n ∧ IntsAre ys ns ∧ ns.length ≤ 20
theorem pop0 {prog : Program} {w : World} {A : Around} {E : Value → Shared → Prop} {s : Shared} {h₀ : Heap} {L D : Addr} {m : Str → Option Value} {news news' : List (Addr × Obj)} {r : List Value} {y : Value} {n : Nat} {u : Tok} {Q : Value → Shared → Prop} (F : Fr h₀ L s.heap m) (N : News h₀ L s.heap news)
    (U : Upd D (listOf (y :: r).toArray n) (listOf r.toArray (n + 1)) news news') (hz : r.length ≤ 100) (h : ∀ h', Fr h₀ L h' m → News h₀ L h' news' → Q y { s with heap := h' }) : wpAny (model prog w) A (call (.builtin "list.pop") [.ref D, .int 0 u]) Q E s := by
  refine kl_popAt (p := []) (q := r) (y := y) (k := 0) F N rfl ?_ rfl U ?_ h
  · unfold seqIndex?
    simp
  · rw [sizeLine_eq]
    show r.length + 1 ≤ _
    omega
theorem kpXX_of {X Y : Addr} {oX oY : Obj} {hs g h' : Heap} {L : Addr} {m : Str → Option Value} (hg : ∀ b o, hs.get? b = some o → b ∉ [(X, oX), (Y, oY)].map (·.1) → g.get? b = some o) (F : Fr g L h' m) : KpXX X Y hs h' := fun b o n1 n2 e =>
  F.keep b o (hg b o e (fun hm => by
    simp only [List.map_cons, List.map_nil, List.mem_cons, List.not_mem_nil, or_false] at hm
    rcases hm with hm | hm
    · exact n1 hm
    · exact n2 hm))
theorem draw_call {w : World} {A : Around} {s : Shared} {Q E : Value → Shared → Prop} {D l : Addr} {o ol : Obj} {many : Int} {u : Tok}
    (H : HereN w A s.heap [(D, o), (l, ol)]) (R : Room A 1) (K : Deck w s.heap D l o ol) (lo : (D == sysModules) = false) (hne : @Ne Nat l D) (hm : 1 ≤ many) (hm2 : many ≤ 1000)
    (ret : ∀ (r : Int) (o' ol' : Obj) (t : Tok) (h' : Heap) (tk' : Nat), KpXX D l s.heap h' → Deck w h' D l o' ol' → 0 ≤ r → r < many → Q (.int r t) { s with heap := h', toks := tk' }) :
    wpAny (model PR w) A (call (.ref 363) [.ref D, .int many u]) Q E s := by
  have hat := H.at
  obtain ⟨k1, ⟨x, t, k2, x0⟩, k3, ⟨ys, n, ns, rfl, hi, hlen⟩⟩ := K
  refine wpAny_call ?_
  k_dflt (refine' enterN ?enH57 ?enR57 ?en657 ?en757 ?en957 ?enB57 ?_ ?ec257 ?ec357 ?ec457 ?ec557; (case enH57 => assumption); (case enR57 => assumption); (case en657 => k_is); (case en757 => k_is); (case en957 => first | exact BindsTo.of_eq rfl | exact binds_K (by assumption) rfl (by k_is) rfl rfl rfl); (case ec557 => decide); (case enB57 => exact locs rfl); (case ec257 => exact rfl); (case ec357 => exact rfl); (case ec457 => exact rfl); k_whole; intro enq01 enq02 enq03 enq04 enq05 enq06 enq07 enq08 enq09 enq10 enq11 enq12 enq13 enq14 enq15 enq16 enq17 enq18 enq19 enq20 enq21 enq22 enq23 enq24 enq25 enq26 enq27 enq28 enq29 enq30 enq31 enq32 enq33; (try k_lt enq29); (try dsimp only); (try k_fold))
  clear H
  rename ∀ b o', s.heap.get? b = some o' → _ => hg
  rename ∀ b o', _ → s.heap.get? b = some o' => hs
  unfold DeckO at k2
  rcases ns with _ | ⟨y, ns⟩
  · have e0 := ints_nil hi
    subst e0
    (repeat' (first | (k_unfold; (try dsimp only)) | ((with_reducible show wpAny _ _ (call (Value.builtin "list.pop") _) _ _ _); k_dflt (refine' pop0 (by k_asm) (by k_asm) (by k_upd) (by k_extra "size") ?_); intro h' F' N'; k_sweep) | walk1 | (dsimp only; walk1) | (leave1; (try dsimp only))))
    (try dsimp only)
    rename Fr _ _ _ _ => F7
    rename News _ _ _ _ => N7
    with_reducible rename Obj.IsDictOf _ _ _ => d7
    refine ret _ _ _ _ _ _ (kpXX_of hg F7) ⟨N7.get (.tail _ (.head _)), ⟨_, _, d7, Int.fmod_nonneg_of_pos _ (by decide)⟩, N7.get (.tail _ (.tail _ (.head _))), ⟨[], _, [], rfl, .nil, by decide⟩⟩ (Int.fmod_nonneg_of_pos _ (by omega)) (Int.fmod_lt_of_pos _ (by omega))
  · obtain ⟨ty, ys', rfl, hi'⟩ := ints_inv hi
    have hl' := hi'.length
    simp only [List.length_cons] at hlen
    k_with "size" => omega
    (repeat' (first | (k_unfold; (try dsimp only)) | ((with_reducible show wpAny _ _ (call (Value.builtin "list.pop") _) _ _ _); k_dflt (refine' pop0 (by k_asm) (by k_asm) (by k_upd) (by k_extra "size") ?_); intro h' F' N'; k_sweep) | walk1 | (dsimp only; walk1) | (leave1; (try dsimp only))))
    (try dsimp only)
    rename Fr _ _ _ _ => F7
    rename News _ _ _ _ => N7
    refine ret _ _ _ _ _ _ (kpXX_of hg F7) ⟨N7.get (by k_mem), ⟨_, _, k2, x0⟩, N7.get (by k_mem), ⟨ys', _, ns, rfl, hi', by omega⟩⟩ (Int.fmod_nonneg_of_pos _ (by omega)) (Int.fmod_lt_of_pos _ (by omega))

end
local macro_rules | `(tactic| walk_at "zz") => `(tactic| fail)
local macro_rules | `(tactic| walk_at "zz") => `(tactic| fail)
section
theorem off_lawl : True := by
  w_top off
  trivial
theorem newsApp {g h h' : Heap} {L : Addr} {m : Str → Option Value} {news rest : List (Addr × Obj)} (F : Fr g L h m) (N : News g L h news) (k : Kp h h') (f : ∀ q ∈ rest, h.get? q.1 = none ∧ h'.get? q.1 = some q.2) : News g L h' (news ++ rest) := by
  intro p hp
  rcases List.mem_append.mp hp with hp | hp
  · exact ⟨k _ _ (N p hp).1, (N p hp).2⟩
  · have a := (f p hp).1
    refine ⟨(f p hp).2, fun q => ?_, ?_⟩
    · obtain ⟨oL, _, _, hL, _⟩ := F.ns
      have q' : p.1 = L := q
      rw [q', hL] at a
      cases a
    · cases q : g.get? p.1 with
      | none => rfl
      | some o => rw [F.keep _ _ q] at a; cases a
theorem restOff {h h' : Heap} {rest : List (Addr × Obj)} {X : Addr} {o : Obj} (f : ∀ q ∈ rest, h.get? q.1 = none ∧ h'.get? q.1 = some q.2) (e : h.get? X = some o) : ∀ p ∈ rest, @Ne Nat p.1 X := fun p hp => Ne.symm (ne_fresh (f p hp).1 e)
theorem drawU {g h h' : Heap} {L D l : Addr} {m : Str → Option Value} {news : List (Addr × Obj)} {o o' ol ol' : Obj} {g1 g2 : Obj → List (Addr × Obj)} (F : Fr g L h m) (N : News g L h news) (U1 : UpdF D o news g1) (U2 : UpdF l ol (g1 o') g2) (k : KpXX D l h h') (e1 : h'.get? D = some o') (e2 : h'.get? l = some ol') (hne : @Ne Nat l D) :
    Fr g L h' m ∧ News g L h' (g2 ol') := by
  obtain ⟨pre, post, q1, q2, a1, a2⟩ := U1.split
  obtain ⟨pre2, post2, q3, q4, a3, a4⟩ := U2.split
  have mD : (D, o) ∈ news := by rw [q1]; exact List.mem_append_right _ (.head _)
  have ml : (l, ol) ∈ news := by
    have h1 : (l, ol) ∈ g1 o' := by rw [q3]; exact List.mem_append_right _ (.head _)
    rw [q2] at h1
    rw [q1]
    rcases List.mem_append.mp h1 with h1 | h1
    · exact List.mem_append_left _ h1
    · rcases List.mem_cons.mp h1 with h1 | h1
      · exact absurd (congrArg Prod.fst h1) hne
      · exact List.mem_append_right _ (.tail _ h1)
  have nD := N _ mD
  have nl := N _ ml
  refine ⟨⟨F.ns.at fun o e => k L o (fun q => nD.2.1 q.symm) (fun q => nl.2.1 q.symm) e, fun b o e => k b o (fun q => ?_) (fun q => ?_) (F.keep b o e), F.above⟩, fun p hp => ?_⟩
  · have q' : b = D := q
    have n3 := nD.2.2
    rw [q'] at e
    rw [e] at n3
    cases n3
  · have q' : b = l := q
    have n3 := nl.2.2
    rw [q'] at e
    rw [e] at n3
    cases n3
  · rw [q4] at hp
    have key : ∀ p ∈ g1 o', @Ne Nat p.1 l → h'.get? p.1 = some p.2 ∧ p.1 ≠ L ∧ g.get? p.1 = none := fun p hp hn => by
      rw [q2] at hp
      rcases List.mem_append.mp hp with hp | hp
      · have n := N p (by rw [q1]; exact List.mem_append_left _ hp)
        exact ⟨k _ _ (a1 p hp) hn n.1, n.2⟩
      · rcases List.mem_cons.mp hp with rfl | hp
        · exact ⟨e1, nD.2⟩
        · have n := N p (by rw [q1]; exact List.mem_append_right _ (.tail _ hp))
          exact ⟨k _ _ (a2 p hp) hn n.1, n.2⟩
    rcases List.mem_append.mp hp with hp | hp
    · exact key p (by rw [q3]; exact List.mem_append_left _ hp) (a3 p hp)
    · rcases List.mem_cons.mp hp with rfl | hp
      · exact ⟨e2, nl.2⟩
      · exact key p (by rw [q3]; exact List.mem_append_right _ (.tail _ hp)) (a4 p hp)
theorem compR_ind {prog : Program} {w : World} {A : Around} {h₀ : Heap} {L : Addr} {m : Str → Option Value} {env : Env} {elt : PySem.Expr} {x : Str} {scope : Scope} {cl : List (Str × Addr)} {s : Shared} {S : List (Addr × Obj) → Prop} {P : Nat → Value → Prop} {Fin : List Value → List (Addr × Obj) → Prop} {n : Nat}
    (Inv : Nat → List Value → List (Addr × Obj) → Prop)
    (step : ∀ i ys news, i < n → Inv i ys news → ∀ v I oI C oC D m₂ h tk (E' : Value → Shared → Prop), P i v → LCg.NsObj oC m₂ → m₂ x = some v → Fr h₀ L h m → News h₀ L h ((I, oI) :: (C, oC) :: (D, LCg.lst ys) :: news) → LCg.Off3 I C D news → ((@Ne Nat I C) ∧ (@Ne Nat I D) ∧ (@Ne Nat C D)) →
      wpAny (model prog w) A (eval elt (compEnvC scope cl C env)) (LCg.CompEnd h₀ L m { s with heap := h, toks := tk } I oI C oC D (LCg.lst ys) S (fun y news' => Inv (i + 1) (ys ++ [y]) news')) E' { s with heap := h, toks := tk })
    (fin : ∀ ys news, Inv n ys news → Fin ys news) : ∀ (k i : Nat) (ys : List Value) (news : List (Addr × Obj)), i + k = n → Inv i ys news → LCg.CompRest prog w A h₀ L m env elt x scope cl s S P Fin k i ys news := by
  intro k
  induction k with
  | zero =>
    intro i ys news e hy
    have e' : i = n := by omega
    subst e'
    exact LCg.CompRest.zero (fin ys news hy)
  | succ k ih =>
    intro i ys news e hy
    refine LCg.CompRest.succ fun v I oI C oC D m₂ h tk E' hP hC hx F N off ne => ?_
    refine wpAny_mono (step i ys news (by omega) hy v I oI C oC D m₂ h tk E' hP hC hx F N off ne) (fun y s'' hs => ?_) fun _ _ e => e
    obtain ⟨h', tk', news', e1, F', N', off', hS, hi⟩ := hs
    exact ⟨h', tk', news', e1, F', N', off', hS, ih (i + 1) _ _ (by omega) hi⟩

end
section
theorem off_lawm : True := by
  w_top off
  trivial
abbrev signs : List Int := [64257, 8544, 8560, 101, 769, 233, 69, 73, 201, 102]
theorem signs_item {w : World} {A : Around} {s : Shared} {Q E : Value → Shared → Prop} {g : Heap} {L : Addr} {m : Str → Option Value} {value slice : PySem.Expr} {k : Int} {u : Tok} (X : (hd.heap_1 w.params).In g) (F : Fr g L s.heap m) (h0 : 0 ≤ k) (h1 : k < 10) (h : ∀ t, Q (.int (signs.getD k.toNat 0) t) s)
    (hs : subscripted slice false (.ref 339) (.int k u) = operate [.ref 339, .int k u] (getItem (.ref 339) (.int k u)) := by with_unfolding_all rfl) (hg : ∀ r, letTemporaryGo value (.ref 339) r = pure () := by intro _; with_unfolding_all rfl) :
    wpAny (model PR w) A (subscriptTail value slice (.ref 339) (.int k u)) Q E s := by
  have hx := F.keep _ _ (X 339 _ (by k_is))
  refine item_list_ints (ns := signs) (isListOf hx) ?_ h0 (by simpa using h1) (by omega) h hs hg
  exact .cons _ _ (.cons _ _ (.cons _ _ (.cons _ _ (.cons _ _ (.cons _ _ (.cons _ _ (.cons _ _ (.cons _ _ (.cons _ _ .nil)))))))))
theorem News.up22 {g h : Heap} {L : Addr} {a b p q : Addr × Obj} {r : List (Addr × Obj)} (N : News g L h (a :: b :: p :: q :: r)) : News g L h (p :: q :: a :: b :: r) := fun x hx => N x (by
  simp only [List.mem_cons] at hx ⊢
  rcases hx with e | e | e | e | e
  · exact .inr (.inr (.inl e))
  · exact .inr (.inr (.inr (.inl e)))
  · exact .inl e
  · exact .inr (.inl e)
  · exact .inr (.inr (.inr (.inr e))))
/-- the deck's two objects, whatever the heap -/
def DeckOk (w : World) (l : Addr) (o ol : Obj) : Prop := (∃ x t, DeckO w o l x t ∧ 0 ≤ x) ∧ ∃ ys n ns, ol = listOf ys.toArray n ∧ IntsAre ys ns ∧ ns.length ≤ 20
theorem DeckOk.at {w : World} {h : Heap} {D l : Addr} {o ol : Obj} (k : DeckOk w l o ol) (e1 : h.get? D = some o) (e2 : h.get? l = some ol) : Deck w h D l o ol := ⟨e1, k.1, e2, k.2⟩
theorem Deck.ok {w : World} {h : Heap} {D l : Addr} {o ol : Obj} (k : Deck w h D l o ol) : DeckOk w l o ol := ⟨k.dict, k.list⟩
def txtInv (w : World) (D l : Addr) (cst : List (Addr × Obj)) (i : Nat) (ys : List Value) (nx : List (Addr × Obj)) : Prop :=
  ∃ o ol zs, nx = (D, o) :: (l, ol) :: cst ∧ DeckOk w l o ol ∧ IntsAre ys zs ∧ zs.length = i ∧ ∀ z ∈ zs, z ∈ signs
theorem signs_mem {k : Int} (h0 : 0 ≤ k) (h1 : k < 10) : signs.getD k.toNat 0 ∈ signs := by
  obtain ⟨n, rfl⟩ : ∃ n : Nat, k = n := ⟨k.toNat, by omega⟩
  have : n < 10 := by omega
  rw [Int.toNat_natCast, List.getD_eq_getElem?_getD, List.getElem?_eq_getElem (by simpa using this)]
  exact List.getElem_mem _
theorem range_n {k : Int} (h0 : 0 ≤ k) : Builtin.Range.rangeSize 0 k 1 = ((k.toNat : Nat) : Int) := by
  unfold Builtin.Range.rangeSize
  simp
  omega
theorem News.up32 {g h : Heap} {L : Addr} {a b c p q : Addr × Obj} {r : List (Addr × Obj)} (N : News g L h (a :: b :: c :: p :: q :: r)) : News g L h (p :: q :: a :: b :: r) := fun x hx => N x (by
  simp only [List.mem_cons] at hx ⊢
  rcases hx with e | e | e | e | e
  · exact .inr (.inr (.inr (.inl e)))
  · exact .inr (.inr (.inr (.inr (.inl e))))
  · exact .inl e
  · exact .inr (.inl e)
  · exact .inr (.inr (.inr (.inr (.inr e)))))
theorem range_sm {k : Int} (h0 : 0 ≤ k) (h1 : k < 7) : Builtin.Range.small 0 k 1 = true := by
  have : k = 0 ∨ k = 1 ∨ k = 2 ∨ k = 3 ∨ k = 4 ∨ k = 5 ∨ k = 6 := by omega
  rcases this with rfl | rfl | rfl | rfl | rfl | rfl | rfl <;> decide
theorem led_cst {g h : Heap} {L : Addr} {p q : Addr × Obj} {r : List (Addr × Obj)} (N : News g L h (p :: q :: r)) : ∃ cst, cst = r ∧ News g L h (p :: q :: cst) := ⟨_, rfl, N⟩
/-- a draw within the comprehension -/
theorem drawC {g h h' : Heap} {L D l I C Dc : Addr} {m : Str → Option Value} {cst : List (Addr × Obj)} {oI oC oD o o' ol ol' : Obj} (F : Fr g L h m) (N : News g L h ((I, oI) :: (C, oC) :: (Dc, oD) :: (D, o) :: (l, ol) :: cst)) (off : LCg.Off3 I C Dc ((D, o) :: (l, ol) :: cst)) (hD : ∀ p ∈ cst, @Ne Nat p.1 D) (hl : ∀ p ∈ cst, @Ne Nat p.1 l) (hne : @Ne Nat l D)
    (k : KpXX D l h h') (e1 : h'.get? D = some o') (e2 : h'.get? l = some ol') : Fr g L h' m ∧ News g L h' ((I, oI) :: (C, oC) :: (Dc, oD) :: (D, o') :: (l, ol') :: cst) := by
  have a1 := off.1
  have a2 := off.2.1
  exact drawU F N (.tail (Ne.symm a1.1) (.tail (Ne.symm a1.2.1) (.tail (Ne.symm a1.2.2) (.head (List.forall_mem_cons.mpr ⟨hne, hD⟩))))) (.tail (Ne.symm a2.1) (.tail (Ne.symm a2.2.1) (.tail (Ne.symm a2.2.2) (.tail (Ne.symm hne) (.head hl))))) k e1 e2 hne
/-- the frame and the ledger behind a call that may fill the table -/
theorem tcallU {g h h' : Heap} {L c0 : Addr} {m : Str → Option Value} {ps : Array Value} {o0 : Obj} {news : List (Addr × Obj)} {gg : Obj → List (Addr × Obj)} (F : Fr g L h m) (N : News g L h news) (U : UpdF (112 : Nat) (tabObj ps) news gg) (he : (c0, o0) ∈ news) (hne : @Ne Nat c0 112) (k : KpB h h') (T : Tab h') :
    ∃ ps' c oc, Fr g L h' m ∧ News g L h' ((c, oc) :: gg (tabObj ps')) ∧ LCg.Off1 c [((112 : Nat), tabObj #[])] ∧ TabN g [(c, oc)] ps' := by
  obtain ⟨pre, post, e1, e2, a, b⟩ := U.split
  obtain ⟨ps', t1, t2⟩ := T
  have N0 : News g L h (pre ++ ((112 : Nat), tabObj ps) :: post) := e1 ▸ N
  have m0 : ((112 : Nat), tabObj ps) ∈ pre ++ ((112 : Nat), tabObj ps) :: post := List.mem_append_right _ (.head _)
  have F' : Fr g L h' m := by
    have n := N0 _ m0
    refine ⟨F.ns.at fun o e => k L o (fun q => n.2.1 q.symm) e, fun b o e => k b o (fun q => ?_) (F.keep b o e), F.above⟩
    have n3 := n.2.2
    rw [q] at e
    rw [e] at n3
    cases n3
  have N1 : News g L h' (gg (tabObj ps')) := by rw [e2]; exact newsB N0 a b k t1
  have N2 : News g L h [((112 : Nat), tabObj ps)] := fun p hp => by rw [List.mem_singleton.mp hp]; exact N0 _ m0
  obtain ⟨cx, N3, hT⟩ := tab_led F' N2 t1 t2
  have d0 : (c0, o0) ∈ gg (tabObj ps') := by
    rw [e2]
    rw [e1] at he
    rcases List.mem_append.mp he with he | he
    · exact List.mem_append_left _ he
    · rcases List.mem_cons.mp he with he | he
      · exact absurd (congrArg Prod.fst he) hne
      · exact List.mem_append_right _ (.tail _ he)
  rcases hT with q | ⟨c, oc, vs, t, q, l1, dd, r, mem⟩
  · exact ⟨ps', c0, o0, F', fun p hp => by
      rcases List.mem_cons.mp hp with rfl | hp
      · exact N1 _ d0
      · exact N1 p hp, ⟨hne.symm, trivial⟩, .inl q⟩
  · rcases mem with mem | mem
    · exact ⟨ps', c, oc, F', fun p hp => by
        rcases List.mem_cons.mp hp with rfl | hp
        · exact N3 _ (.tail _ mem)
        · exact N1 p hp, ⟨Nat.ne_of_lt l1, trivial⟩, .inr ⟨c, oc, vs, t, q, l1, dd, r, .inl (.head _)⟩⟩
    · exact ⟨ps', c0, o0, F', fun p hp => by
        rcases List.mem_cons.mp hp with rfl | hp
        · exact N1 _ d0
        · exact N1 p hp, ⟨hne.symm, trivial⟩, .inr ⟨c, oc, vs, t, q, l1, dd, r, .inr mem⟩⟩

end
section
theorem off_lawp : True := by
  w_top off
  trivial
theorem ncf_fold (ns : List Int) : ncfF ns = foldF ns := lawC_eq _
theorem caf_fold (ns : List Int) : caF ns = foldF (ns.flatMap expF) := ncf_fold _
theorem lc_head {x : Int} (h1 : x ≠ 101) (h2 : x ≠ 69) (tl : List Int) (c : Int) : ∃ tl', lcstep (x :: tl) c = x :: tl' := by
  cases tl with
  | nil => exact ⟨[c], by simp [lcstep, h1, h2]⟩
  | cons y r =>
    unfold lcstep
    split
    · exact ⟨(y :: r).dropLast ++ [233], by simp⟩
    · split
      · exact ⟨(y :: r).dropLast ++ [201], by simp⟩
      · exact ⟨(y :: r) ++ [c], by simp⟩
theorem lc_heads {x : Int} (h1 : x ≠ 101) (h2 : x ≠ 69) : ∀ (ys : List Int) (tl : List Int), ∃ tl', ys.foldl lcstep (x :: tl) = x :: tl'
  | [], tl => ⟨tl, rfl⟩
  | c :: r, tl => by
    obtain ⟨t2, e⟩ := lc_head h1 h2 tl c
    rw [List.foldl_cons, e]
    exact lc_heads h1 h2 r t2
theorem caf_head {c x : Int} (zs : List Int) (e1 : expF c = [c]) (e2 : cfI c = x) (e3 : expF x = [x]) (h1 : x ≠ 101) (h2 : x ≠ 69) : ∃ tl, caF (c :: zs) = x :: tl := by
  rw [caf_fold]
  unfold foldF
  rw [List.flatMap_cons, e1, List.map_append, List.flatMap_append, List.map_cons, List.map_nil, e2, List.flatMap_cons, e3, List.flatMap_nil, List.append_nil]
  rw [List.cons_append, List.nil_append, List.foldl_cons]
  have : lcstep [] x = [x] := by unfold lcstep; simp
  rw [this]
  exact lc_heads h1 h2 _ []
theorem wide_ne {k : Int} (h0 : 0 ≤ k) (h1 : k < 3) (zs : List Int) : caF (signs.getD k.toNat 0 :: zs) ≠ caF ((signs.getD k.toNat 0 :: zs).flatMap wideF) := by
  have : k = 0 ∨ k = 1 ∨ k = 2 := by omega
  rcases this with rfl | rfl | rfl
  · obtain ⟨t1, e1⟩ := caf_head (c := 64257) (x := 64257) zs (by decide) (by decide) (by decide) (by decide) (by decide)
    obtain ⟨t2, e2⟩ := caf_head (c := 102) (x := 102) ([105] ++ zs.flatMap wideF) (by decide) (by decide) (by decide) (by decide) (by decide)
    show caF (64257 :: zs) ≠ caF (102 :: ([105] ++ zs.flatMap wideF))
    rw [e1, e2]
    intro h
    exact absurd (List.cons.inj h).1 (by decide)
  · obtain ⟨t1, e1⟩ := caf_head (c := 8544) (x := 8560) zs (by decide) (by decide) (by decide) (by decide) (by decide)
    obtain ⟨t2, e2⟩ := caf_head (c := 73) (x := 105) (zs.flatMap wideF) (by decide) (by decide) (by decide) (by decide) (by decide)
    show caF (8544 :: zs) ≠ caF (73 :: zs.flatMap wideF)
    rw [e1, e2]
    intro h
    exact absurd (List.cons.inj h).1 (by decide)
  · obtain ⟨t1, e1⟩ := caf_head (c := 8560) (x := 8560) zs (by decide) (by decide) (by decide) (by decide) (by decide)
    obtain ⟨t2, e2⟩ := caf_head (c := 105) (x := 105) (zs.flatMap wideF) (by decide) (by decide) (by decide) (by decide) (by decide)
    show caF (8560 :: zs) ≠ caF (105 :: zs.flatMap wideF)
    rw [e1, e2]
    intro h
    exact absurd (List.cons.inj h).1 (by decide)
theorem signs_codes : ∀ x ∈ signs, x ∈ codes := by decide
theorem txt_codes {k : Int} {zs : List Int} (h0 : 0 ≤ k) (h1 : k < 3) (mz : ∀ z ∈ zs, z ∈ signs) : ∀ x ∈ signs.getD k.toNat 0 :: zs, x ∈ codes := fun x hx => by
  rcases List.mem_cons.mp hx with rfl | hx
  · exact signs_codes _ (signs_mem h0 (by omega))
  · exact signs_codes _ (mz x hx)
theorem wide_codes : ∀ {ns : List Int}, (∀ x ∈ ns, x ∈ codes) → ∀ x ∈ ns.flatMap wideF, x ∈ codes := fun h x hx => by
  obtain ⟨y, hy, hx⟩ := List.mem_flatMap.mp hx
  exact (by decide : ∀ y ∈ codes, ∀ x ∈ wideF y, x ∈ codes) y (h y hy) x hx
theorem wide_len : ∀ ns : List Int, (ns.flatMap wideF).length ≤ 2 * ns.length
  | [] => Nat.le_refl _
  | c :: r => by
    have h1 := wide_len r
    have h2 : (wideF c).length ≤ 2 := by
      unfold wideF
      split
      · decide
      · split
        · simp
        · split <;> simp
    rw [List.flatMap_cons, List.length_append, List.length_cons]
    omega
theorem lc_len (fs : List Int) (c : Int) : (lcstep fs c).length ≤ fs.length + 1 := by
  unfold lcstep
  split
  · simp only [List.length_append, List.length_dropLast, List.length_cons, List.length_nil]; omega
  · split
    · simp only [List.length_append, List.length_dropLast, List.length_cons, List.length_nil]; omega
    · simp only [List.length_append, List.length_cons, List.length_nil]; omega
theorem lcf_len : ∀ (ys fs : List Int), (ys.foldl lcstep fs).length ≤ fs.length + ys.length
  | [], fs => by simp
  | c :: r, fs => by
    have h1 := lcf_len r (lcstep fs c)
    have h2 := lc_len fs c
    rw [List.foldl_cons, List.length_cons]
    omega
theorem foldF_len (ns : List Int) : (foldF ns).length ≤ 2 * ns.length := by
  have h1 := lcf_len ((ns.map cfI).flatMap expF) []
  have h2 := nfdF_len (ns.map cfI)
  unfold nfdF at h2
  rw [List.length_map] at h2
  rw [List.length_nil] at h1
  unfold foldF
  omega

end
section
theorem off_law : True := by
  w_top off
  trivial
local macro_rules | `(tactic| k_ne) => `(tactic| first | (refine' off_at ?offa ?offm; (case offa => with_reducible assumption); (case offm => k_mem)) | (refine' Ne.symm (off_at ?offa ?offm); (case offa => with_reducible assumption); (case offm => k_mem)) | fail "k_ne")
theorem isListK {h h' : Heap} {l : Addr} {its : Array Value} (x : h.IsList l its) (k : Kp h h') : h'.IsList l its := let ⟨o, ho, r⟩ := x; ⟨o, k _ _ ho, r⟩
theorem tt.tw10035173257741584639 : True := trivial
theorem tt.tw10086359938272142751 : True := trivial
theorem tt.tw10143959824290413508 : True := trivial
theorem tt.tw10214950478182852282 : True := trivial
theorem tt.tw10278910404703208756 : True := trivial
theorem tt.tw10332848948678564612 : True := trivial
theorem tt.tw10387201315103927647 : True := trivial
theorem tt.tw10417595904179293294 : True := trivial
theorem tt.tw10449586856731479769 : True := trivial
theorem tt.tw10454472638777327160 : True := trivial
theorem tt.tw1053995199388117570 : True := trivial
theorem tt.tw10579170321181455958 : True := trivial
theorem tt.tw10583658582424775907 : True := trivial
theorem tt.tw10630519850471540517 : True := trivial
theorem tt.tw10630600121163907758 : True := trivial
theorem tt.tw10669700825569539119 : True := trivial
theorem tt.tw10701759736366944138 : True := trivial
theorem tt.tw10726413051843914406 : True := trivial
theorem tt.tw10751297743092957300 : True := trivial
theorem tt.tw10768492824315470779 : True := trivial
theorem tt.tw10777209115471975251 : True := trivial
theorem tt.tw10815197037780206555 : True := trivial
theorem tt.tw1086931216262036830 : True := trivial
theorem tt.tw11161434030206719400 : True := trivial
theorem tt.tw11178211588243079769 : True := trivial
theorem tt.tw1118588304945035457 : True := trivial
theorem tt.tw11345589001719502890 : True := trivial
theorem tt.tw11406225029469794403 : True := trivial
theorem tt.tw11415326093489017527 : True := trivial
theorem tt.tw11428321810494499070 : True := trivial
theorem tt.tw11506024719845776510 : True := trivial
theorem tt.tw11586054698724612939 : True := trivial
theorem tt.tw11597418958280270115 : True := trivial
theorem tt.tw11610981549366223591 : True := trivial
theorem tt.tw11628501833301543961 : True := trivial
theorem tt.tw11717872324761571774 : True := trivial
theorem tt.tw11747020478328171911 : True := trivial
theorem tt.tw11767576039201868253 : True := trivial
theorem tt.tw11776394988237302118 : True := trivial
theorem tt.tw11801343915815075210 : True := trivial
theorem tt.tw11805934429122792038 : True := trivial
theorem tt.tw11831270415575560393 : True := trivial
theorem tt.tw11859811974771808206 : True := trivial
theorem tt.tw1188399600185316109 : True := trivial
theorem tt.tw1189750066677442171 : True := trivial
theorem tt.tw11980550960007577144 : True := trivial
theorem tt.tw12278015570639099191 : True := trivial
theorem tt.tw12378018456475819347 : True := trivial
theorem tt.tw12507179909576309462 : True := trivial
theorem tt.tw12580978675631322185 : True := trivial
theorem tt.tw12605709964741594971 : True := trivial
theorem tt.tw12617466266675113102 : True := trivial
theorem tt.tw12772698279602790751 : True := trivial
theorem tt.tw12832257269573860051 : True := trivial
theorem tt.tw12849781785518897757 : True := trivial
theorem tt.tw12868999197799447353 : True := trivial
theorem tt.tw12880729916085158994 : True := trivial
theorem tt.tw12896134098843945685 : True := trivial
theorem tt.tw12900588249483872694 : True := trivial
theorem tt.tw12942090739961453499 : True := trivial
theorem tt.tw12980289317713015748 : True := trivial
theorem tt.tw13011907873532973152 : True := trivial
theorem tt.tw13020715134340560649 : True := trivial
theorem tt.tw1314408471706360702 : True := trivial
theorem tt.tw13147096120540719744 : True := trivial
theorem tt.tw13148409978177996202 : True := trivial
theorem tt.tw13246464067206082590 : True := trivial
theorem tt.tw13266155810151483758 : True := trivial
theorem tt.tw13304804678901517063 : True := trivial
theorem tt.tw13344430194911890551 : True := trivial
theorem tt.tw13403130642803263433 : True := trivial
theorem tt.tw13516407644856037998 : True := trivial
theorem tt.tw13573520533207658561 : True := trivial
theorem tt.tw13604954742667153120 : True := trivial
theorem tt.tw13650614898791709518 : True := trivial
theorem tt.tw13752904909886015992 : True := trivial
theorem tt.tw13757908710222336663 : True := trivial
theorem tt.tw13793238257053813494 : True := trivial
theorem tt.tw13801391831726240982 : True := trivial
theorem tt.tw13811872282313037096 : True := trivial
theorem tt.tw13816739986505126549 : True := trivial
theorem tt.tw13833722456906790746 : True := trivial
theorem tt.tw13988781958206063510 : True := trivial
theorem tt.tw14010853417031841459 : True := trivial
theorem tt.tw14013077591252832830 : True := trivial
theorem tt.tw14056632646284092441 : True := trivial
theorem tt.tw14119417079500881269 : True := trivial
theorem tt.tw14212120467400786045 : True := trivial
theorem tt.tw14272309803049152891 : True := trivial
theorem tt.tw14332516811909550681 : True := trivial
theorem tt.tw14398204220478477152 : True := trivial
theorem tt.tw14409551506773978787 : True := trivial
theorem tt.tw14430891298474804718 : True := trivial
theorem tt.tw14466253205329709781 : True := trivial
theorem tt.tw14571483989159782924 : True := trivial
theorem tt.tw14603171885384744289 : True := trivial
theorem tt.tw14658704612233823519 : True := trivial
theorem tt.tw14709218066395561808 : True := trivial
theorem tt.tw14753399282109846493 : True := trivial
theorem tt.tw14890045753257300989 : True := trivial
theorem tt.tw14933812908804159558 : True := trivial
theorem tt.tw15040930188830799554 : True := trivial
theorem tt.tw15070391647534097971 : True := trivial
theorem tt.tw15085192646481713117 : True := trivial
theorem tt.tw15216141249059217130 : True := trivial
theorem tt.tw15288386816186271559 : True := trivial
theorem tt.tw15308187754424879957 : True := trivial
theorem tt.tw15309171744226113058 : True := trivial
theorem tt.tw15433805498855371852 : True := trivial
theorem tt.tw15441000965091750335 : True := trivial
theorem tt.tw15518781902673061959 : True := trivial
theorem tt.tw15522084042314810309 : True := trivial
theorem tt.tw15529547538044283942 : True := trivial
theorem tt.tw15667268325308402099 : True := trivial
theorem tt.tw15703620476833841913 : True := trivial
theorem tt.tw15729683303750658028 : True := trivial
theorem tt.tw15743585640554276349 : True := trivial
theorem tt.tw15757882715109789895 : True := trivial
theorem tt.tw15758387613888057331 : True := trivial
theorem tt.tw15762969935683297041 : True := trivial
theorem tt.tw15785470193820693604 : True := trivial
theorem tt.tw15913500381130257414 : True := trivial
theorem tt.tw15923477210347890373 : True := trivial
theorem tt.tw15938801205111150908 : True := trivial
theorem tt.tw15948935843715290865 : True := trivial
theorem tt.tw15965032552816590660 : True := trivial
theorem tt.tw15989378713386335163 : True := trivial
theorem tt.tw16001968196642530612 : True := trivial
theorem tt.tw16039069859189290004 : True := trivial
theorem tt.tw16066699777535027892 : True := trivial
theorem tt.tw16127260253158681141 : True := trivial
theorem tt.tw1615929970851352217 : True := trivial
theorem tt.tw16191487459441356335 : True := trivial
theorem tt.tw16216774826356424188 : True := trivial
theorem tt.tw16225238944574292675 : True := trivial
theorem tt.tw16231067489664897509 : True := trivial
theorem tt.tw16235543749356732000 : True := trivial
theorem tt.tw16259053796800004289 : True := trivial
theorem tt.tw16381484746932619575 : True := trivial
theorem tt.tw16411202931413104431 : True := trivial
theorem tt.tw16412183851540621197 : True := trivial
theorem tt.tw16518635749145852321 : True := trivial
theorem tt.tw1656381807503714928 : True := trivial
theorem tt.tw16564296207161793061 : True := trivial
theorem tt.tw16608580336140454190 : True := trivial
theorem tt.tw16641435261581664037 : True := trivial
theorem tt.tw16785841530122128588 : True := trivial
theorem tt.tw16859761760773452057 : True := trivial
theorem tt.tw16861292110034229834 : True := trivial
theorem tt.tw1694785947720281429 : True := trivial
theorem tt.tw16991198031676029360 : True := trivial
theorem tt.tw17013875822531533905 : True := trivial
theorem tt.tw17063980697844608380 : True := trivial
theorem tt.tw17135252956797461266 : True := trivial
theorem tt.tw1717514842218654068 : True := trivial
theorem tt.tw17360494107730706867 : True := trivial
theorem tt.tw17366705626174379065 : True := trivial
theorem tt.tw17420748220152939451 : True := trivial
theorem tt.tw17457729540164062097 : True := trivial
theorem tt.tw17514195119573975245 : True := trivial
theorem tt.tw17548012741388968429 : True := trivial
theorem tt.tw17558182767031352586 : True := trivial
theorem tt.tw17580122510210825469 : True := trivial
theorem tt.tw17647380059626939713 : True := trivial
theorem tt.tw17680596047155830574 : True := trivial
theorem tt.tw17688921120478603464 : True := trivial
theorem tt.tw17709456397888057165 : True := trivial
theorem tt.tw17716592443370759103 : True := trivial
theorem tt.tw17770013527049825156 : True := trivial
theorem tt.tw17881977236224200368 : True := trivial
theorem tt.tw1795392855584525649 : True := trivial
theorem tt.tw17956483917294835655 : True := trivial
theorem tt.tw17961920246662000822 : True := trivial
theorem tt.tw18021582498410195175 : True := trivial
theorem tt.tw18052237702174372258 : True := trivial
theorem tt.tw1811037573967943174 : True := trivial
theorem tt.tw18196006184208563647 : True := trivial
theorem tt.tw18236029226381415777 : True := trivial
theorem tt.tw18254213499344618714 : True := trivial
theorem tt.tw18263439914384001777 : True := trivial
theorem tt.tw18320935608088945740 : True := trivial
theorem tt.tw18375136339718292351 : True := trivial
theorem tt.tw18413595612983396701 : True := trivial
theorem tt.tw18419464431845660942 : True := trivial
theorem tt.tw1879870789764961992 : True := trivial
theorem tt.tw189325481100504749 : True := trivial
theorem tt.tw1929656773919707897 : True := trivial
theorem tt.tw1966817396578749851 : True := trivial
theorem tt.tw2007558385215133720 : True := trivial
theorem tt.tw205319402512255483 : True := trivial
theorem tt.tw2118323437550105417 : True := trivial
theorem tt.tw2132299564134377363 : True := trivial
theorem tt.tw2139822451744037065 : True := trivial
theorem tt.tw2322294220581272214 : True := trivial
theorem tt.tw2489788169309172581 : True := trivial
theorem tt.tw259667189658271362 : True := trivial
theorem tt.tw2650544537894370291 : True := trivial
theorem tt.tw2678959385052995938 : True := trivial
theorem tt.tw2689844803657660607 : True := trivial
theorem tt.tw2691529926591519547 : True := trivial
theorem tt.tw2695197133525748377 : True := trivial
theorem tt.tw2710539863077063811 : True := trivial
theorem tt.tw2786992424667865396 : True := trivial
theorem tt.tw2818027444032698068 : True := trivial
theorem tt.tw3022614535715731317 : True := trivial
theorem tt.tw3030326091410968822 : True := trivial
theorem tt.tw307756357799075095 : True := trivial
theorem tt.tw3136956790219844854 : True := trivial
theorem tt.tw3149215934262255841 : True := trivial
theorem tt.tw3151302607705712083 : True := trivial
theorem tt.tw3162714026095138574 : True := trivial
theorem tt.tw319176305387625093 : True := trivial
theorem tt.tw3211136681117122064 : True := trivial
theorem tt.tw3238289115099818646 : True := trivial
theorem tt.tw3328598821780065165 : True := trivial
theorem tt.tw3336757525949233082 : True := trivial
theorem tt.tw340797468290552909 : True := trivial
theorem tt.tw3461270877253841574 : True := trivial
theorem tt.tw3510251015641518824 : True := trivial
theorem tt.tw3533268251901176026 : True := trivial
theorem tt.tw3553058285414687394 : True := trivial
theorem tt.tw3568198138272076875 : True := trivial
theorem tt.tw357486453476387696 : True := trivial
theorem tt.tw3600424566676805664 : True := trivial
theorem tt.tw3616677228440079585 : True := trivial
theorem tt.tw3643010467432630910 : True := trivial
theorem tt.tw3650185338341130220 : True := trivial
theorem tt.tw366439083869650420 : True := trivial
theorem tt.tw3667984143994954828 : True := trivial
theorem tt.tw371069010822751197 : True := trivial
theorem tt.tw3760516798300173486 : True := trivial
theorem tt.tw3794183844771524072 : True := trivial
theorem tt.tw3863134570233288364 : True := trivial
theorem tt.tw389482863744240731 : True := trivial
theorem tt.tw3907135731463059202 : True := trivial
theorem tt.tw392445628891194887 : True := trivial
theorem tt.tw4006659597810430909 : True := trivial
theorem tt.tw4008336664583549426 : True := trivial
theorem tt.tw4049707259780863640 : True := trivial
theorem tt.tw4062897358302397505 : True := trivial
theorem tt.tw4075258712611681840 : True := trivial
theorem tt.tw4207005887205673175 : True := trivial
theorem tt.tw42113295535214479 : True := trivial
theorem tt.tw4217001378479322011 : True := trivial
theorem tt.tw4245980411537032867 : True := trivial
theorem tt.tw4253106939551658057 : True := trivial
theorem tt.tw4286823815950609409 : True := trivial
theorem tt.tw4286891236464113586 : True := trivial
theorem tt.tw4378199991585386045 : True := trivial
theorem tt.tw4434663046854518534 : True := trivial
theorem tt.tw4461007205715639879 : True := trivial
theorem tt.tw44640388258848065 : True := trivial
theorem tt.tw4480137390502541955 : True := trivial
theorem tt.tw4562997347110796489 : True := trivial
theorem tt.tw4620184940177979433 : True := trivial
theorem tt.tw466819072999169939 : True := trivial
theorem tt.tw4692470734307615778 : True := trivial
theorem tt.tw4708729185574051748 : True := trivial
theorem tt.tw4728024636517787884 : True := trivial
theorem tt.tw4747082947005949996 : True := trivial
theorem tt.tw4766227094069981178 : True := trivial
theorem tt.tw4786197696887231293 : True := trivial
theorem tt.tw4789805618744477125 : True := trivial
theorem tt.tw4790617918828432733 : True := trivial
theorem tt.tw4886559372148958918 : True := trivial
theorem tt.tw493974445407013868 : True := trivial
theorem tt.tw4949543267536808126 : True := trivial
theorem tt.tw4958134643662795121 : True := trivial
theorem tt.tw4958509416207090653 : True := trivial
theorem tt.tw4967579543752615807 : True := trivial
theorem tt.tw4990131638344204226 : True := trivial
theorem tt.tw5016470080598756948 : True := trivial
theorem tt.tw5023204600152440553 : True := trivial
theorem tt.tw5067609637754682035 : True := trivial
theorem tt.tw511859252457507443 : True := trivial
theorem tt.tw5127087993673371560 : True := trivial
theorem tt.tw5140318808976283758 : True := trivial
theorem tt.tw5191973943243044686 : True := trivial
theorem tt.tw5204764591320883072 : True := trivial
theorem tt.tw5237708353301818991 : True := trivial
theorem tt.tw5240835782155822961 : True := trivial
theorem tt.tw5394766729304967928 : True := trivial
theorem tt.tw5423554141500088224 : True := trivial
theorem tt.tw5512466822766887345 : True := trivial
theorem tt.tw5638597475745826609 : True := trivial
theorem tt.tw5650355538524123009 : True := trivial
theorem tt.tw5747639311597684307 : True := trivial
theorem tt.tw5955839580386169252 : True := trivial
theorem tt.tw6041743420231468678 : True := trivial
theorem tt.tw6065118080855585670 : True := trivial
theorem tt.tw6207121497745694490 : True := trivial
theorem tt.tw6438263400948760104 : True := trivial
theorem tt.tw6475780728812957013 : True := trivial
theorem tt.tw6520727084414002827 : True := trivial
theorem tt.tw6528010724877310193 : True := trivial
theorem tt.tw6598926995285627079 : True := trivial
theorem tt.tw6645515896570280834 : True := trivial
theorem tt.tw6648860534794774400 : True := trivial
theorem tt.tw6688100710974509039 : True := trivial
theorem tt.tw6739346166584876319 : True := trivial
theorem tt.tw678229405490246772 : True := trivial
theorem tt.tw6985590810900254973 : True := trivial
theorem tt.tw6985622525919335999 : True := trivial
theorem tt.tw7008966126358702457 : True := trivial
theorem tt.tw706784352085335964 : True := trivial
theorem tt.tw7152542949175445639 : True := trivial
theorem tt.tw7183359638488525470 : True := trivial
theorem tt.tw7192358764564608222 : True := trivial
theorem tt.tw7199286336744299796 : True := trivial
theorem tt.tw7236079906945872097 : True := trivial
theorem tt.tw7282903817718065239 : True := trivial
theorem tt.tw7333882470619332927 : True := trivial
theorem tt.tw7335867412796798814 : True := trivial
theorem tt.tw7385405900594588585 : True := trivial
theorem tt.tw7390803972589154826 : True := trivial
theorem tt.tw7403885182143271471 : True := trivial
theorem tt.tw7420995801698229625 : True := trivial
theorem tt.tw7441430721602571572 : True := trivial
theorem tt.tw7466746819667624 : True := trivial
theorem tt.tw7521812330582482410 : True := trivial
theorem tt.tw7537814246441265722 : True := trivial
theorem tt.tw7569598814682582702 : True := trivial
theorem tt.tw7671068140679085181 : True := trivial
theorem tt.tw768698445151210852 : True := trivial
theorem tt.tw769559321809430226 : True := trivial
theorem tt.tw7727279649056094764 : True := trivial
theorem tt.tw7769288693983803163 : True := trivial
theorem tt.tw7879896092443764056 : True := trivial
theorem tt.tw7896042876363226900 : True := trivial
theorem tt.tw7941015495636478039 : True := trivial
theorem tt.tw8219148035496130603 : True := trivial
theorem tt.tw8250437437003035806 : True := trivial
theorem tt.tw8290436681156721048 : True := trivial
theorem tt.tw8398730702198325831 : True := trivial
theorem tt.tw8437758405893935906 : True := trivial
theorem tt.tw8451912328782275924 : True := trivial
theorem tt.tw845805150174434276 : True := trivial
theorem tt.tw8471626167225602783 : True := trivial
theorem tt.tw8541396834511054786 : True := trivial
theorem tt.tw8573076195340232911 : True := trivial
theorem tt.tw8591066645956603361 : True := trivial
theorem tt.tw8610499417497839482 : True := trivial
theorem tt.tw8660112759871361395 : True := trivial
theorem tt.tw8826583889775951407 : True := trivial
theorem tt.tw9034434089807307920 : True := trivial
theorem tt.tw905656918297563123 : True := trivial
theorem tt.tw9133568230962416603 : True := trivial
theorem tt.tw9140538522060158857 : True := trivial
theorem tt.tw914244595599352811 : True := trivial
theorem tt.tw9155218051627095959 : True := trivial
theorem tt.tw9270227196210755292 : True := trivial
theorem tt.tw9308087255799817895 : True := trivial
theorem tt.tw9404580339779896353 : True := trivial
theorem tt.tw9483392835845870266 : True := trivial
theorem tt.tw9536981676842347335 : True := trivial
theorem tt.tw9550783528701179567 : True := trivial
theorem tt.tw958793849338525136 : True := trivial
theorem tt.tw9667849692600609869 : True := trivial
theorem tt.tw9673502101297535383 : True := trivial
theorem tt.tw9717537436087612191 : True := trivial
theorem tt.tw9739655011919281347 : True := trivial
theorem tt.tw9749109612197107379 : True := trivial
theorem tt.tw9761099398650248426 : True := trivial
theorem tt.tw9824328201275826246 : True := trivial
theorem tt.tw9862334231172404068 : True := trivial
theorem tt.tw98917910177472595 : True := trivial
theorem tt.tw9893863272192337692 : True := trivial
theorem tt.tw9897747691398749290 : True := trivial
theorem tt.tw9903676891015034703 : True := trivial
theorem tt.tw9970634275350307660 : True := trivial

set_option Elab.async true in
theorem tt : PySem.Challenge.rw_hb0006_01.Holds := by
  w_on
  o_law
  o_head (kmHook hd.heap_1 [2,3,15,17,18,20,21,22,29,30,32,33,35,36,37,38,39,40,43,50,51,52,55,57,58,60,61,62,64,65,67,68,69,71,72,74,75,76,78,79,81,82,83,85,86,88,89,90,92,93,95,96,97,99,100,102,103,104,106,107,109,110,111,114,115,116,117,119,120,122,123,124,126,127,129,130,131,133,134,136,137,145,147,148,150,151,152,154,155,157,158,159,161,162,164,165,166,167,168,169,170,173,174,176,177,179,180,181,182,184,185,187,188,189,191,192,194,195,196,198,199,201,202,203,205,206,208,209,210,212,213,215,216,217,219,220,222,223,224,226,227,229,230,231,234,235,243,245,246,248,249,250,252,253,255,256,257,259,260,262,263,264,267,268,269,271,272,274,275,276,277,278,279,280,283,285,286,288,289,290,292,293,295,296,304,306,307,309,310,311,313,314,316,317,318,320,321,323,324,325,327,328,330,331,332,333,334,335,336,339,340,341,342,343,344,345,346,347,348,349,350,351,352,355,356,357,359,360,362,363,364,366,367,369,370,371,373,374,376,377,378,380,381,383,384,385,387,388,390,391,392,395,396] (fun _ => by kernel_rfl) [112])
  case hw => w_witness2
  k_go0
  (all_goals try k_fold)
  have l112 := ltRaw (by assumption : ∀ p ∈ [((112 : Nat), tabObj #[])], p.1 < _) (List.Mem.head _)
  (repeat ((fail_if_success (with_reducible show wpAny _ _ (call (Value.ref 356) _) _ _ _)); walk1))
  rename Fr _ _ _ _ => F5
  rename News _ _ _ _ => N5
  rename IntsAre _ _ => hI
  refine deck_call (by ktr_rel) (Room.less (n := 100) ⟨Nat.le_of_ble_eq_true (by rfl), Nat.le_of_ble_eq_true (by rfl)⟩ (by decide)) (isListK lifted F5.keep) hI (by omega) ?_
  intro D l o ys n ns x t h1 tk1 k1 fD1 fl1 gD1 dk1 x01 gl1 iy1 len1 loD ne1
  have F1 := F5.keeps k1
  have N1 := newsAdd F5 N5 k1 fl1 gl1
  replace N1 := news1 F5 fD1 gD1 N1
  have o1 := newOff N5 fD1
  have o2 := newOff N5 fl1
  clear F5 N5 k1
  (repeat ((fail_if_success (with_reducible show wpAny _ _ (call (Value.ref 370) _) _ _ _)); walk1))
  rename Fr _ _ _ _ => F5
  rename News _ _ _ _ => N5
  refine ld_call (HereN.mk F5 N5 (fun p hp => absurd hp List.not_mem_nil) (by k_asm) (by k_asm) codeHd (by k_asm) rfl) (Room.less (n := 100) ⟨Nat.le_of_ble_eq_true (by rfl), Nat.le_of_ble_eq_true (by rfl)⟩ (by decide)) ?_
  intro d a rest h2 tk2 k2 fr2 dat2
  have F2 := F5.keeps k2
  have N2 := newsApp F5 N5 k2 fr2
  have q1 := restOff fr2 (N5.get (a := D) (by k_mem))
  have q2 := restOff fr2 (N5.get (a := l) (by k_mem))
  have q3 := restOff fr2 (N5.get (a := (112 : Nat)) (by k_mem))
  have q4 := restOff fr2 (N5 _ (.tail _ (.tail _ (.head _)))).1
  dsimp only at q4
  simp only [List.cons_append, List.nil_append] at N2
  clear F5 N5 k2
  (repeat ((fail_if_success (with_reducible show wpAny _ _ (call (Value.ref 363) _) _ _ _)); walk1))
  rename Fr _ _ _ _ => F5
  rename News _ _ _ _ => N5
  refine draw_call (HereN.mk F5 N5 (SubL.mem (l := [(D, o), (l, listOf ys.toArray n)]) (by k_subL)) (by k_asm) (by k_asm) codeHd (by k_asm) rfl) (Room.less (n := 100) ⟨Nat.le_of_ble_eq_true (by rfl), Nat.le_of_ble_eq_true (by rfl)⟩ (by decide)) ⟨N5.get (by k_mem), ⟨x, t, dk1, x01⟩, N5.get (by k_mem), ⟨ys, n, ns, rfl, iy1, len1⟩⟩ loD ne1 (by decide) (by decide) ?_
  intro r3 o3 ol3 t3 h3 tk3 k3 K3 r30 r31
  obtain ⟨F3, N3⟩ := drawU F5 N5 (by k_updF) (by k_updF) k3 K3.at_ K3.lat ne1
  have dk3 := K3.ok
  clear K3
  clear F5 N5 k3
  (try dsimp only at N3)
  refine signs_item (by k_asm) F3 r30 (by omega) ?_
  intro t0
  (repeat ((fail_if_success (with_reducible show wpAny _ _ (eval (PySem.Expr.ListComp _ _ _ _) _) _ _ _)); walk1))
  k_dflt (refine LCg.ListComp_U (F₀ := by k_asm) (by with_unfolding_all rfl) (by decide) (by rfl) (by decide) (by rfl) ?_)
  (repeat ((fail_if_success (with_reducible show wpAny _ _ (call (Value.ref 363) _) _ _ _)); (first | (k_unfold; (try dsimp only)) | ((with_reducible show wpAny _ _ (eval (PySem.Expr.Name _ _) (compEnvC _ _ _ _)) _ _ _); k_dflt (first | (refine' LCgL.ld_global (by with_reducible assumption) (by with_reducible assumption) (by with_reducible assumption) (by k_is) ?_) | (refine' LCgL.ld_built (by with_reducible assumption) (by with_reducible assumption) (by with_reducible assumption) (by k_is) (by boot_by_name) (by decide) ?_) | (refine' lcf_free (by with_reducible assumption) (by rfl) (by k_mem) (by with_reducible assumption) ?_ rfl rfl))) | walk1)))
  rename Fr _ _ _ _ => F5
  rename News _ _ _ _ => N5
  refine draw_call (HereN.mk F5 N5 (SubL.mem (l := [(D, o3), (l, ol3)]) (by k_subL)) (by k_asm) (by k_asm) codeHd (by k_asm) rfl) (Room.less (n := 100) ⟨Nat.le_of_ble_eq_true (by rfl), Nat.le_of_ble_eq_true (by rfl)⟩ (by decide)) (DeckOk.at dk3 (N5.get (by k_mem)) (N5.get (by k_mem))) loD ne1 (by decide) (by decide) ?_
  intro r4 o4 ol4 t4 h4 tk4 k4 K4 r40 r41
  obtain ⟨F4, N4⟩ := drawU F5 N5 (by k_updF) (by k_updF) k4 K4.at_ K4.lat ne1
  have dk4 := K4.ok
  clear F5 N5 k4 K4 dk3
  (try dsimp only at N4)
  iterate 2 walk1
  rename Fr _ _ _ _ => F5
  rename News _ _ _ _ => N5
  obtain ⟨cst, ec, N6⟩ := led_cst (News.up22 N5)
  have hcD : ∀ p ∈ cst, @Ne Nat p.1 D := by rw [ec]; k_all
  have hcl : ∀ p ∈ cst, @Ne Nat p.1 l := by rw [ec]; k_all
  refine LCg.CompSrc.range (n := r4.toNat) rfl F5 N6 (by assumption) (range_sm r40 r41) (range_n r40) (by rw [sizeLine_eq]; omega) ?_
  intro g9
  refine compR_ind (txtInv _ D l cst) ?step ?fin _ 0 [] _ (Nat.zero_add _) ⟨o4, ol4, [], rfl, dk4, .nil, rfl, nofun⟩
  case step =>
    rintro i ys nx hi9 ⟨o5, ol5, zs, rfl, dk5, iz, lz, mz⟩ v I oI C oC Dc m₂ h5 tk5 E' hP hC hx F9 N9 off ne9
    clear F5 N5 N6
    subst ec
    (repeat ((fail_if_success (with_reducible show wpAny _ _ (call (Value.ref 363) _) _ _ _)); (first | (k_unfold; (try dsimp only)) | ((with_reducible show wpAny _ _ (eval (PySem.Expr.Name _ _) (compEnvC _ _ _ _)) _ _ _); k_dflt (first | (refine' LCgL.ld_global (by with_reducible assumption) (by with_reducible assumption) (by with_reducible assumption) (by k_is) ?_) | (refine' LCgL.ld_built (by with_reducible assumption) (by with_reducible assumption) (by with_reducible assumption) (by k_is) (by boot_by_name) (by decide) ?_) | (refine' lcf_free (by with_reducible assumption) (by rfl) (by k_mem) (by with_reducible assumption) ?_ rfl rfl))) | walk1)))
    rename Fr _ _ _ _ => F7
    rename News _ _ _ _ => N7
    refine draw_call (many := 10) (HereN.mk F7 N7 (SubL.mem (l := [(D, o5), (l, ol5)]) (by k_subL)) (by k_asm) (by k_asm) codeHd (by k_asm) rfl) (Room.less (n := 100) ⟨Nat.le_of_ble_eq_true (by rfl), Nat.le_of_ble_eq_true (by rfl)⟩ (by decide)) (DeckOk.at dk5 (N7.get (by k_mem)) (N7.get (by k_mem))) loD ne1 (by decide) (by decide) ?_
    intro r6 o6 ol6 t6 h6 tk6 k6 K6 r60 r61
    obtain ⟨F6, N6⟩ := drawC F7 N7 off hcD hcl ne1 k6 K6.at_ K6.lat
    refine signs_item (by k_asm) F6 r60 r61 ?_
    intro t7
    exact LCg.CompEnd.intro F6 N6 _ (fun p hp => hp) off trivial ⟨o6, ol6, zs ++ [signs.getD r6.toNat 0], rfl, K6.ok, ints_snoc iz, by rw [List.length_append, lz]; rfl, fun z hz => (List.mem_append.mp hz).elim (mz z) (fun e => by rw [List.mem_singleton.mp e]; exact signs_mem r60 r61)⟩
  case fin =>
    rintro ys2 nx ⟨o5, ol5, zs, rfl, dk5, iz, lz, mz⟩
    unfold LCg.FinE
    intro Dt h8 tk8 F8 N8 off8
    clear F5 N5 N6
    subst ec
    have lz2 := iz.length
    k_with "sum" => ((rw [sizeLine_eq]); simp; omega)
    (repeat ((fail_if_success (with_reducible show wpAny _ _ (call (Value.ref 377) _) _ _ _)); (first | (k_unfold; (try dsimp only)) | ((with_reducible show wpAny _ _ (binaryOp _ (Value.ref _) (Value.ref _)) _ _ _); k_dflt (refine' kmk_add_lit (by k_asm) (by k_asm) (by kmk_list) (by kmk_list) (by rfl) ?_ (by k_extra "sum")); intro D' h' F' N' l1; (try k_lt l1); (try k_sweep)) | walk1)))
    rename Fr _ _ _ _ => F5
    rename News _ _ _ _ => N5
    obtain ⟨T, eT⟩ : ∃ b, b = News.a0 N5 := ⟨_, rfl⟩
    dsimp only [News.a0] at eT
    subst eT
    obtain ⟨txt, etxt⟩ : ∃ b, b = signs.getD r3.toNat 0 :: zs := ⟨_, rfl⟩
    have iT : IntsAre ([.int (signs.getD r3.toNat 0) t0] ++ ys2) txt := by rw [etxt]; exact .cons _ _ iz
    have lT : txt.length ≤ 7 := by rw [etxt, List.length_cons]; omega
    refine lawby_call (f := wideF) (by ktr_rel) (Room.less (n := 100) ⟨Nat.le_of_ble_eq_true (by rfl), Nat.le_of_ble_eq_true (by rfl)⟩ (by decide)) (dK343 (by k_in)) (by rfl) (N5.get (a := T) (by k_mem)) iT (fun x _ => told343 (by k_in) x) (by omega) ?_
    intro lO vO nO h9 tk9 k9 fr9 g9 iO zO
    have off10 := newOff N5 fr9
    have F10 := F5.keeps k9
    have N10 := newsAdd F5 N5 k9 fr9 g9
    clear F5 N5 k9 fr9 g9
    (repeat ((fail_if_success (with_reducible show wpAny _ _ (call (Value.ref 391) _) _ _ _)); (first | (k_unfold; (try dsimp only)) | ((with_reducible show wpAny _ _ (call (Value.type "list") [Value.ref _]) _ _ _); k_dflt (refine' list_copyK (by k_asm) (by k_asm) (by kmk_list) ?_ (by ((rw [sizeLine_eq]); (simp only [List.size_toArray, List.length_append, List.length_cons, List.length_nil]); omega))); intro D' c' h' F' N' l1; (try k_lt l1); (try k_sweep)) | walk1)))
    rename Fr _ _ _ _ => F5
    rename News _ _ _ _ => N5
    refine lfo_call (by ktr_rel) (Room.less (n := 100) ⟨Nat.le_of_ble_eq_true (by rfl), Nat.le_of_ble_eq_true (by rfl)⟩ (by decide)) (N5.get (a := T) (by k_mem)) iT (by omega) ?_
    intro lU vU nU h9 tk9 k9 fr9 g9 iU
    have off11 := newOff N5 fr9
    have F11 := F5.keeps k9
    have N11 := newsAdd F5 N5 k9 fr9 g9
    clear F5 N5 k9 fr9 g9
    (repeat ((fail_if_success (with_reducible show wpAny _ _ (call (Value.ref 377) _) _ _ _)); walk1))
    rename Fr _ _ _ _ => F5
    rename News _ _ _ _ => N5
    refine lawby_call (f := expF) (by ktr_rel) (Room.less (n := 100) ⟨Nat.le_of_ble_eq_true (by rfl), Nat.le_of_ble_eq_true (by rfl)⟩ (by decide)) (dK340 (by k_in)) (by rfl) (N5.get (a := T) (by k_mem)) iT (fun x _ => told340 (by k_in) x) (by omega) ?_
    intro lP vP nP h9 tk9 k9 fr9 g9 iP zP
    have off12 := newOff N5 fr9
    have F12 := F5.keeps k9
    have N12 := newsAdd F5 N5 k9 fr9 g9
    clear F5 N5 k9 fr9 g9
    have lP2 := nfdF_len txt
    unfold nfdF at lP2
    (repeat ((fail_if_success (with_reducible show wpAny _ _ (call (Value.ref 391) _) _ _ _)); (first | (k_unfold; (try dsimp only)) | ((with_reducible show wpAny _ _ (call (Value.type "list") [Value.ref _]) _ _ _); k_dflt (refine' list_copyK (by k_asm) (by k_asm) (by kmk_list) ?_ (by ((rw [sizeLine_eq]); (simp only [List.size_toArray, List.length_append, List.length_cons, List.length_nil]); omega))); intro D' c' h' F' N' l1; (try k_lt l1); (try k_sweep)) | walk1)))
    rename Fr _ _ _ _ => F5
    rename News _ _ _ _ => N5
    refine lfo_call (by ktr_rel) (Room.less (n := 100) ⟨Nat.le_of_ble_eq_true (by rfl), Nat.le_of_ble_eq_true (by rfl)⟩ (by decide)) (N5.get (a := lP) (by k_mem)) iP (by omega) ?_
    intro lS vS nS h9 tk9 k9 fr9 g9 iS
    have off13 := newOff N5 fr9
    have F13 := F5.keeps k9
    have N13 := newsAdd F5 N5 k9 fr9 g9
    clear F5 N5 k9 fr9 g9
    have hcT : ∀ x ∈ txt, x ∈ codes := by rw [etxt]; exact txt_codes r30 r31 mz
    have hcO := wide_codes hcT
    have lO2 := wide_len txt
    (repeat ((fail_if_success (with_reducible show wpAny _ _ (call (Value.ref 209) _) _ _ _)); (first | (k_unfold; (try dsimp only)) | ((with_reducible show wpAny _ _ (call (Value.type "list") [Value.ref _]) _ _ _); k_dflt (refine' list_copyK (by k_asm) (by k_asm) (by kmk_list) ?_ (by ((rw [sizeLine_eq]); (simp only [List.size_toArray, List.length_append, List.length_cons, List.length_nil]); omega))); intro D' c' h' F' N' l1; (try k_lt l1); (try k_sweep)) | walk1)))
    rename Fr _ _ _ _ => F5
    rename News _ _ _ _ => N5
    have D5 := dat2 _ (fun q hq => (N5 q (by repeat (first | exact hq | refine List.Mem.tail _ ?_))).1)
    refine ncf_call ⟨_, HereN.mk F5 N5 (fun p hp => by rw [List.mem_singleton.mp hp]; k_mem) (by k_asm) (by k_asm) codeHd (by k_asm) rfl, .inl rfl⟩ (Room.less (n := 100) ⟨Nat.le_of_ble_eq_true (by rfl), Nat.le_of_ble_eq_true (by rfl)⟩ (by decide)) D5 (N5.get (a := T) (by k_mem)) iT hcT (by omega) ?_
    intro l21 v21 n21 h9 tk9 k9 T9 fr9 g9 i21
    obtain ⟨ps21, c21, oc21, F21, N21, offc21, hT21⟩ := tcallU F5 N5 (by k_updF) (by k_mem : (T, listOf ([Value.int (signs.getD r3.toNat 0) t0] ++ ys2).toArray 0) ∈ _) (by k_ne) k9 T9
    replace N21 := news1 F5 fr9 g9 N21
    have off21 := newOff N5 fr9
    clear F5 N5 k9 T9 fr9 g9 D5
    (try dsimp only at N21)
    rw [ncf_fold] at i21
    have z21 := i21.length
    have y21 := foldF_len (txt)
    (repeat ((fail_if_success (with_reducible show wpAny _ _ (call (Value.ref 216) _) _ _ _)); (first | (k_unfold; (try dsimp only)) | ((with_reducible show wpAny _ _ (call (Value.type "list") [Value.ref _]) _ _ _); k_dflt (refine' list_copyK (by k_asm) (by k_asm) (by kmk_list) ?_ (by ((rw [sizeLine_eq]); (simp only [List.size_toArray, List.length_append, List.length_cons, List.length_nil]); omega))); intro D' c' h' F' N' l1; (try k_lt l1); (try k_sweep)) | walk1)))
    rename Fr _ _ _ _ => F5
    rename News _ _ _ _ => N5
    have D5 := dat2 _ (fun q hq => (N5 q (by repeat (first | exact hq | refine List.Mem.tail _ ?_))).1)
    refine cs_call ⟨_, HereN.mk F5 N5 (fun p hp => by rw [List.mem_singleton.mp hp]; k_mem) (by k_asm) (by k_asm) codeHd (by k_asm) rfl, TabN.ps hT21 F5 N5 (fun p hp => by rw [List.mem_singleton.mp hp]; k_mem)⟩ (Room.less (n := 100) ⟨Nat.le_of_ble_eq_true (by rfl), Nat.le_of_ble_eq_true (by rfl)⟩ (by decide)) D5 (N5.get (a := T) (by k_mem)) iT hcT (by omega) ?_
    intro l22 v22 n22 h9 tk9 k9 T9 fr9 g9 i22
    obtain ⟨ps22, c22, oc22, F22, N22, offc22, hT22⟩ := tcallU F5 N5 (by k_updF) (by k_mem : (T, listOf ([Value.int (signs.getD r3.toNat 0) t0] ++ ys2).toArray 0) ∈ _) (by k_ne) k9 T9
    replace N22 := news1 F5 fr9 g9 N22
    have off22 := newOff N5 fr9
    clear F5 N5 k9 T9 fr9 g9 D5
    (try dsimp only at N22)
    rw [caf_fold] at i22
    have z22 := i22.length
    have y22 := foldF_len (txt.flatMap expF)
    (repeat ((fail_if_success (with_reducible show wpAny _ _ (call (Value.ref 209) _) _ _ _)); (first | (k_unfold; (try dsimp only)) | ((with_reducible show wpAny _ _ (call (Value.type "list") [Value.ref _]) _ _ _); k_dflt (refine' list_copyK (by k_asm) (by k_asm) (by kmk_list) ?_ (by ((rw [sizeLine_eq]); (simp only [List.size_toArray, List.length_append, List.length_cons, List.length_nil]); omega))); intro D' c' h' F' N' l1; (try k_lt l1); (try k_sweep)) | walk1)))
    rename Fr _ _ _ _ => F5
    rename News _ _ _ _ => N5
    have D5 := dat2 _ (fun q hq => (N5 q (by repeat (first | exact hq | refine List.Mem.tail _ ?_))).1)
    refine ncf_call ⟨_, HereN.mk F5 N5 (fun p hp => by rw [List.mem_singleton.mp hp]; k_mem) (by k_asm) (by k_asm) codeHd (by k_asm) rfl, TabN.ps hT22 F5 N5 (fun p hp => by rw [List.mem_singleton.mp hp]; k_mem)⟩ (Room.less (n := 100) ⟨Nat.le_of_ble_eq_true (by rfl), Nat.le_of_ble_eq_true (by rfl)⟩ (by decide)) D5 (N5.get (a := lO) (by k_mem)) iO hcO (by omega) ?_
    intro l23 v23 n23 h9 tk9 k9 T9 fr9 g9 i23
    obtain ⟨ps23, c23, oc23, F23, N23, offc23, hT23⟩ := tcallU F5 N5 (by k_updF) (by k_mem : (T, listOf ([Value.int (signs.getD r3.toNat 0) t0] ++ ys2).toArray 0) ∈ _) (by k_ne) k9 T9
    replace N23 := news1 F5 fr9 g9 N23
    have off23 := newOff N5 fr9
    clear F5 N5 k9 T9 fr9 g9 D5
    (try dsimp only at N23)
    rw [ncf_fold] at i23
    have z23 := i23.length
    have y23 := foldF_len (txt.flatMap wideF)
    (repeat ((fail_if_success (with_reducible show wpAny _ _ (call (Value.ref 391) _) _ _ _)); (first | (k_unfold; (try dsimp only)) | ((with_reducible show wpAny _ _ (call (Value.type "list") [Value.ref _]) _ _ _); k_dflt (refine' list_copyK (by k_asm) (by k_asm) (by kmk_list) ?_ (by ((rw [sizeLine_eq]); (simp only [List.size_toArray, List.length_append, List.length_cons, List.length_nil]); omega))); intro D' c' h' F' N' l1; (try k_lt l1); (try k_sweep)) | walk1)))
    rename Fr _ _ _ _ => F5
    rename News _ _ _ _ => N5
    refine lfo_call (by ktr_rel) (Room.less (n := 100) ⟨Nat.le_of_ble_eq_true (by rfl), Nat.le_of_ble_eq_true (by rfl)⟩ (by decide)) (N5.get (a := lO) (by k_mem)) iO (by omega) ?_
    intro lV vV nV h9 tk9 k9 fr9 g9 iV
    have off24 := newOff N5 fr9
    have F24 := F5.keeps k9
    have N24 := newsAdd F5 N5 k9 fr9 g9
    clear F5 N5 k9 fr9 g9
    (repeat ((fail_if_success (with_reducible show wpAny _ _ (call (Value.ref 230) _) _ _ _)); (first | (k_unfold; (try dsimp only)) | ((with_reducible show wpAny _ _ (call (Value.type "list") [Value.ref _]) _ _ _); k_dflt (refine' list_copyK (by k_asm) (by k_asm) (by kmk_list) ?_ (by ((rw [sizeLine_eq]); (simp only [List.size_toArray, List.length_append, List.length_cons, List.length_nil]); omega))); intro D' c' h' F' N' l1; (try k_lt l1); (try k_sweep)) | walk1)))
    rename Fr _ _ _ _ => F5
    rename News _ _ _ _ => N5
    have D5 := dat2 _ (fun q hq => (N5 q (by repeat (first | exact hq | refine List.Mem.tail _ ?_))).1)
    refine ch_call ⟨_, HereN.mk F5 N5 (fun p hp => by rw [List.mem_singleton.mp hp]; k_mem) (by k_asm) (by k_asm) codeHd (by k_asm) rfl, TabN.ps hT23 F5 N5 (fun p hp => by rw [List.mem_singleton.mp hp]; k_mem)⟩ (Room.less (n := 100) ⟨Nat.le_of_ble_eq_true (by rfl), Nat.le_of_ble_eq_true (by rfl)⟩ (by decide)) D5 (N5.get (a := T) (by k_mem)) iT hcT (by omega) ?_
    intro h9 tk9 k9 T9
    obtain ⟨ps25, c25, oc25, F25, N25, offc25, hT25⟩ := tcallU F5 N5 (by k_updF) (by k_mem : (T, listOf ([Value.int (signs.getD r3.toNat 0) t0] ++ ys2).toArray 0) ∈ _) (by k_ne) k9 T9
    clear F5 N5 k9 T9 D5
    (try dsimp only at N25)
    rw [ncf_fold]
    iterate 6 (first | k_unfold | walk1 | (dsimp only; walk1))
    refine ite_neg (by simp) ?_
    have hm1 : decide (caF txt = caF (txt.flatMap wideF)) = false := decide_eq_false (by rw [etxt]; exact wide_ne r30 r31 zs)
    have hm2 : decide (caF (txt.flatMap wideF) = caF txt) = false := decide_eq_false (fun e => absurd e.symm (by rw [etxt]; exact wide_ne r30 r31 zs))
    (repeat ((fail_if_success (with_reducible show wpAny _ _ (call (Value.ref 223) _) _ _ _)); (first | (k_unfold; (try dsimp only)) | ((with_reducible show wpAny _ _ (call (Value.type "list") [Value.ref _]) _ _ _); k_dflt (refine' list_copyK (by k_asm) (by k_asm) (by kmk_list) ?_ (by ((rw [sizeLine_eq]); (simp only [List.size_toArray, List.length_append, List.length_cons, List.length_nil]); omega))); intro D' c' h' F' N' l1; (try k_lt l1); (try k_sweep)) | walk1)))
    rename Fr _ _ _ _ => F5
    rename News _ _ _ _ => N5
    have D5 := dat2 _ (fun q hq => (N5 q (by repeat (first | exact hq | refine List.Mem.tail _ ?_))).1)
    refine mt_call ⟨_, HereN.mk F5 N5 (fun p hp => by rw [List.mem_singleton.mp hp]; k_mem) (by k_asm) (by k_asm) codeHd (by k_asm) rfl, TabN.ps hT25 F5 N5 (fun p hp => by rw [List.mem_singleton.mp hp]; k_mem)⟩ (Room.less (n := 100) ⟨Nat.le_of_ble_eq_true (by rfl), Nat.le_of_ble_eq_true (by rfl)⟩ (by decide)) D5 (N5.get (a := T) (by k_mem)) iT hcT (by omega) (N5.get (a := lO) (by k_mem)) iO hcO (by omega) ?_
    intro h9 tk9 k9 T9
    obtain ⟨ps26, c26, oc26, F26, N26, offc26, hT26⟩ := tcallU F5 N5 (by k_updF) (by k_mem : (T, listOf ([Value.int (signs.getD r3.toNat 0) t0] ++ ys2).toArray 0) ∈ _) (by k_ne) k9 T9
    clear F5 N5 k9 T9 D5
    (try dsimp only at N26)
    rw [hm1]
    (repeat ((fail_if_success (with_reducible show wpAny _ _ (call (Value.ref 223) _) _ _ _)); (first | (k_unfold; (try dsimp only)) | ((with_reducible show wpAny _ _ (call (Value.type "list") [Value.ref _]) _ _ _); k_dflt (refine' list_copyK (by k_asm) (by k_asm) (by kmk_list) ?_ (by ((rw [sizeLine_eq]); (simp only [List.size_toArray, List.length_append, List.length_cons, List.length_nil]); omega))); intro D' c' h' F' N' l1; (try k_lt l1); (try k_sweep)) | walk1)))
    rename Fr _ _ _ _ => F5
    rename News _ _ _ _ => N5
    have D5 := dat2 _ (fun q hq => (N5 q (by repeat (first | exact hq | refine List.Mem.tail _ ?_))).1)
    refine mt_call ⟨_, HereN.mk F5 N5 (fun p hp => by rw [List.mem_singleton.mp hp]; k_mem) (by k_asm) (by k_asm) codeHd (by k_asm) rfl, TabN.ps hT26 F5 N5 (fun p hp => by rw [List.mem_singleton.mp hp]; k_mem)⟩ (Room.less (n := 100) ⟨Nat.le_of_ble_eq_true (by rfl), Nat.le_of_ble_eq_true (by rfl)⟩ (by decide)) D5 (N5.get (a := lO) (by k_mem)) iO hcO (by omega) (N5.get (a := T) (by k_mem)) iT hcT (by omega) ?_
    intro h9 tk9 k9 T9
    obtain ⟨ps27, c27, oc27, F27, N27, offc27, hT27⟩ := tcallU F5 N5 (by k_updF) (by k_mem : (T, listOf ([Value.int (signs.getD r3.toNat 0) t0] ++ ys2).toArray 0) ∈ _) (by k_ne) k9 T9
    clear F5 N5 k9 T9 D5
    (try dsimp only at N27)
    rw [hm2]
    (repeat ((fail_if_success (with_reducible show wpAny _ _ (call (Value.ref 223) _) _ _ _)); (first | (k_unfold; (try dsimp only)) | ((with_reducible show wpAny _ _ (call (Value.type "list") [Value.ref _]) _ _ _); k_dflt (refine' list_copyK (by k_asm) (by k_asm) (by kmk_list) ?_ (by ((rw [sizeLine_eq]); (simp only [List.size_toArray, List.length_append, List.length_cons, List.length_nil]); omega))); intro D' c' h' F' N' l1; (try k_lt l1); (try k_sweep)) | walk1)))
    rename Fr _ _ _ _ => F5
    rename News _ _ _ _ => N5
    have D5 := dat2 _ (fun q hq => (N5 q (by repeat (first | exact hq | refine List.Mem.tail _ ?_))).1)
    refine mt_call ⟨_, HereN.mk F5 N5 (fun p hp => by rw [List.mem_singleton.mp hp]; k_mem) (by k_asm) (by k_asm) codeHd (by k_asm) rfl, TabN.ps hT27 F5 N5 (fun p hp => by rw [List.mem_singleton.mp hp]; k_mem)⟩ (Room.less (n := 100) ⟨Nat.le_of_ble_eq_true (by rfl), Nat.le_of_ble_eq_true (by rfl)⟩ (by decide)) D5 (N5.get (a := T) (by k_mem)) iT hcT (by omega) (N5.get (.head _)) iT hcT (by omega) ?_
    intro h9 tk9 k9 T9
    obtain ⟨ps28, c28, oc28, F28, N28, offc28, hT28⟩ := tcallU F5 N5 (by k_updF) (by k_mem : (T, listOf ([Value.int (signs.getD r3.toNat 0) t0] ++ ys2).toArray 0) ∈ _) (by k_ne) k9 T9
    clear F5 N5 k9 T9 D5
    (try dsimp only at N28)
    rw [decide_eq_true (rfl : caF txt = caF txt)]
    iterate 6 (try (first | (k_unfold; (try dsimp only)) | walk1 | (dsimp only; walk1)))
    (first | k_end | skip)
    · kc_close
    · rename News _ _ _ _ => N7
      exact ⟨GrownAt.of N7 (by k_mem), trivial⟩

end

end Mine
theorem PySem.Challenge.cw_hb0006_01_holds : PySem.Challenge.rw_hb0006_01.Holds := by
  exact Mine.tt
