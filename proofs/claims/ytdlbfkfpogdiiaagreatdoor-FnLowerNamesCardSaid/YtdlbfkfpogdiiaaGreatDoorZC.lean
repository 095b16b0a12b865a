/- Part 3 of the proof: the engine, codes, walks and plain laws, each named where it stands. -/
import Derived.Test.YtdlbfkfpogdiiaaGreatDoorZB
open Nat (reduceEqDiff reduceAdd reduceLeDiff reduceLT)
set_option linter.unusedVariables false
set_option linter.unusedSimpArgs false
set_option maxRecDepth 4000
set_option maxHeartbeats 2000000
open Bool renaming and_eq_true->Jb,true_and->Jr,eq_iff_iff->J4,not_eq_true'->J6,and_assoc->J7,false_and->Jad,not_false->Jae,and_false->Ja7
open Int renaming eq_ofNat_of_zero_le->Jag,le_refl->Jbe
open List renaming mem_singleton->Ja,getD_eq_getElem?_getD->Jc,take_of_length_le->Jd,getElem_mem->Je,mem_append->Jf,mem_append_right->Jg,mem_append_left->Jh,take_succ_eq_append_getElem->Ji,cons_append->Jj,perm_append_comm->Jk,nil_append->Jm,length_cons->Jn,map_append->Jo,nodup_append->Jp,mem_of_getElem?->Jq,append_assoc->Js,getElem?_eq_getElem->Jt,mem_map->Jv,map_cons->Jw,take_append_drop->Jx,length_map->Jy,all_eq_true->Jz,mem_cons->J1,length_nil->J2,mem_cons_of_mem->J3,mem_cons_self->J5,length_singleton->J8,append_nil->J9,getElem_of_mem->Jaa,getElem?_map->Jaf,length_eq_zero_iff->Jah,any_eq_true->Jai,length_take->Jaj,contains_iff_mem->Jal,map_nil->Jam,forall_mem_cons->Jan,drop_zero->Jao,getD_cons_succ->Jap,getD_cons_zero->Jaq,map_congr_left->Jar,length_append->Jas,map_take->Jat,set_cons_zero->Jau,getElem_take->Jaw,map_set->Jax,getElem_map->Jay,not_mem_nil->Jaz,foldl_cons->Ja0,headD_cons->Ja1,length_set->Ja2,nodup_cons->Ja3,sum_append->Ja4,map_map->Ja8,set_set->Ja9
open Nat renaming le_refl->Jl,zero_add->Ju,lt_pow_self->Jab,mul_le_mul_left->Jac,one_le_two_pow->Jav,le_succ->Ja5,add_zero->Jba,le_trans->Jbb,lt_or_ge->Jbc,mul_succ->Jbd
open Option renaming isSome_iff_exists->J0,getD_some->Jak,map_some->Ja6
open Option.some renaming inj->Jbf
namespace Go.AE.Y
open Go.Proofs.Tryz
theorem Qaa6 {R : Rdr} {fl : Bool} {ss : List (List UInt8)} : ∀ (d : Nat) {k : Nat} {H : Heap} {K : V → Heap → Prop} (deep : Int), deep ≤ d → H R.l = R.o k → k + 6 * 2^d ≤ 2^40 →
    (∀ (x : Ex) (H' : Heap) (k' : Nat), k < k' → k' + 3 ≤ k + 6 * 2^d → Upd H H' [(R.l, R.o k')] → x.ok → k + x.size ≤ k' → K (.ag x.cells) H') →
    Qj prog Qeb [.c (.ptr R.l 0), .c (.sl fl 1 (Q9 ss)), .c (.int .i64 deep)] H K := by
  intro d
  induction d using Nat.strongRecOn with
  | ind d ih =>
  intro k H K deep hd hH hk hK;have hp1 : 1 ≤ 2^d := Jav;have hp0 : d < 2^d := Nat.lt_two_pow_self;refine Qn ?_;refine Qb Qad Qba6 ?_;refine Qa ?_;simp only [go_sem];intro x hx H1 h1;have kn := (Kn.start1 hH (R.o_ne k)).al hx h1;refine Q5 ?_;refine Qa ?_;simp only [go_sem];have rest : ∀ (b : Bool) (H2 : Heap) (k2 : Nat), k ≤ k2 → k2 ≤ k + 1 → Kn H H2 [(R.l, R.o k2)] [(x, .st [.int .i64 0, .int .i64 0, .str [], .sl true 4 []])] → (b = false → 2 ≤ deep) →
      Q8 prog (s_l2Expr_2.seq Q9d) (Qq Qth (unK H K))
       [(0, V.c (C.ptr R.l 0)), (1, V.c (C.sl fl 1 (Q9 ss))), (2, .c (.int .i64 deep)), (6, V.c (C.ptr x 0)), (14, V.c (.bool b))] H2 := by
    intro b H2 k2 hk1 hk2 kn hb;have fin : ∀ (op n : Int) (name : List UInt8) (fl : Bool) (kids : List Ex) (H3 : Heap) (k3 : Nat) (o : Obj), k < k3 → k3 + 3 ≤ k + 6 * 2^d → Kn H H3 [(R.l, R.o k3)] [(x, .st [.int .i64 op, .int .i64 n, .str name, .sl fl 4 (Qw kids)])] →
        (op = 10 → kids.length = 2) → Qda kids → k + 1 + Qr kids ≤ k3 →
        Q7 Qth [(6, V.c (C.ptr x 0))] H3 (unK H K) := by
      intro op n name fl kids H3 k3 o g1 g2 kn g3 g4 g5;have hx3 := kn.l 0 rfl;simp only [go_sem, Q7, Qth, Ja, forall_eq, RS.op, hx3];refine ⟨_, (Ex.mk op n name kids).frz, hK _ _ k3 g1 g2 kn.fin ?_ ?_⟩
      · simp only [Ex.ok]; exact ⟨g3, g4⟩
      · simp only [Ex.size]; omega
    refine Qg (Qc rfl ?_ ?_)
    · intro hb';refine Qa ?_;simp only [go_sem];refine Qbay (kn.e 0 rfl) (by omega) fun y H3 k3 g1 g2 hu hok hsz => ?_;have kn := kn.callE 0 rfl hu (R.o_ne _);have hx3 := kn.l 0 rfl;simp only [go_sem, Q9e, hx3, y.cells_eq];intro H4 h4;have kn := kn.stL 0 rfl h4;refine Qi ?_;simp only [go_sem, Qq];refine fin _ _ _ _ _ _ k3 .none (by omega) (by omega) kn (Ex.ok_and hok) (Ex.ok_kids hok) ?_;have := y.size_kids; omega
    · intro hb';have hdp := hb hb';have hp : 2^d = 2 * 2^(d-1) := (by rw [← Nat.pow_succ']; congr 1; omega);have hp2 : 1 ≤ 2^(d-1) := Jav;have ihd := fun {k H K} => @ih (d-1) (by omega) k H K;generalize 2^(d-1) = e at *;refine Qf ?_;simp only [go_sem];refine Q5 ?_;refine Qa ?_;simp only [go_sem];refine Qcp (kn.e 0 rfl) (by omega) fun v H3 hv hu => ?_;have kn := kn.callE 0 rfl hu (R.o_ne _);simp only [go_sem, Q9f];refine Qg (Qc rfl ?_ ?_)
      · intro hc;refine Qa ?_;simp only [go_sem];refine Qys (ns := [11, 12, 11]) (kn.e 0 rfl) (by omega) (by simp) fun op H4 hop hu => ?_;have kn := kn.callE 0 rfl hu (R.o_ne _);simp only [go_sem, Q9h];refine ⟨Qm (by omega) (by omega), ?_⟩;refine ihd (deep - 1) (by omega) (kn.e 0 rfl) (by omega) fun y H5 k5 g1 g2 hu hok hsz => ?_;have kn := kn.callE 0 rfl hu (R.o_ne _);have hx5 := kn.l 0 rfl;simp only [go_sem, Q9g, hx5, y.cells_len];intro H6 h6;have kn := kn.stL 0 rfl h6;refine Qi ?_;simp only [go_sem, Qq];refine fin op 0 [] true [y] _ k5 .none (by omega) (by omega) kn (fun h => ?_) ⟨hok, trivial⟩ ?_
        · subst h; simp at hop
        · simp only [Qr]; omega
      · intro hc;refine Qf ?_;simp only [go_sem];refine Qa ?_;simp only [go_sem];refine Qys (ns := [3, 3, 4, 5, 6, 7, 8, 9, 10]) (kn.e 0 rfl) (by omega) (by simp) fun op H4 hop hu => ?_;have kn := kn.callE 0 rfl hu (R.o_ne _);simp only [go_sem, Q9i];refine Qa ?_;simp only [go_sem];refine ⟨Qm (by omega) (by omega), ?_⟩;refine ihd (deep - 1) (by omega) (kn.e 0 rfl) (by omega) fun y H5 k5 g1 g2 hu hok hsz => ?_;have kn := kn.callE 0 rfl hu (R.o_ne _);simp only [go_sem, Q9k];refine ⟨Qm (by omega) (by omega), ?_⟩;refine ihd (deep - 1) (by omega) (kn.e 0 rfl) (by omega) fun z H6 k6 g3 g4 hu hok2 hsz2 => ?_;have kn := kn.callE 0 rfl hu (R.o_ne _);have hx5 := kn.l 0 rfl;simp only [go_sem, Q9j, hx5, y.cells_len, z.cells_len];intro H7 h7;have kn := kn.stL 0 rfl h7;refine Qi ?_;simp only [go_sem, Qq];refine fin op 0 [] true [y, z] _ k6 .none (by omega) (by omega) kn (fun h => rfl) ⟨hok, hok2, trivial⟩ ?_;simp only [Qr]; omega
  refine ⟨fun hb => ?_, fun hb => ?_⟩
  · refine Qcp (kn.e 0 rfl) (by omega) fun v H2 hv hu => ?_;have kn := kn.callE 0 rfl hu (R.o_ne _);simp only [go_sem, Qow];refine rest _ H2 (k + 1) (by omega) (by omega) kn ?_;intro h;have : ¬ deep < 2 := (by simpa using hb);omega
  · have hb2 : decide (deep < 2) = true := (by simpa using hb);simp only [go_sem, Qow, hb2];exact rest true H1 k (by omega) (by omega) kn (fun h => by simp at h)
end Go.AE.Y
namespace Go.AE.Y
variable {H:Heap}{S:Nat→Bool}
inductive FrzR (H:Heap)(S:Nat→Bool):List (List C)→List (List C)→Prop
 |nil:FrzR H S [] []
 |cons {r r':List C} {l l':List (List C)} (h:FrzL H S r r') (t:FrzR H S l l'):FrzR H S (r::l) (r'::l')
theorem FrzR.spec {l l':List (List C)}(h:FrzR H S l l'):l'.length=l.length∧∀(i:Nat) (r r':List C),l[i]? = some r→l'[i]? = some r'→FrzL H S r r':=by
 induction h with
 |nil=>exact⟨rfl,fun j c c' h=>by simp at h⟩
 |cons h t ih=>
  refine⟨by simp[ih.1],fun j c c' h1 h2=>?_⟩
  cases j with
  |zero=>simp at h1 h2;subst h1;subst h2;exact h
  |succ j=>simp at h1 h2;exact ih.2 j c c' h1 h2
theorem FrzR.sl {fl:Bool}{sz:Nat}{l l':List (List C)}(h:FrzR H S l l'):FrzC H S (.sl fl sz l) (.sl false sz l'):=
 .sl fl sz l l' h.spec.1 (fun i r r' h1 h2=>(h.spec.2 i r r' h1 h2).spec.1) fun i r r' j c c' h1 h2 h3 h4=>(h.spec.2 i r r' h1 h2).spec.2 j c c' h3 h4
theorem FrzR.vsl {l sz n:Nat}{rows rows':List (List C)}(hS:S l=true)(hH:H l=.vec sz rows)(hn:n=rows.length)(h:FrzR H S rows rows'):FrzC H S (.vsl l sz 0 n) (.sl false sz rows'):=by
 subst hn;exact .vsl l sz 0 rows.length rows rows rows' hS hH (by omega) (by simp) h.spec.1 (fun i r r' h1 h2=>(h.spec.2 i r r' h1 h2).spec.1) fun i r r' j c c' h1 h2 h3 h4=>(h.spec.2 i r r' h1 h2).spec.2 j c c' h3 h4
end Go.AE.Y
namespace Go.AE
open Go.AE.Y
variable {H:Heap}{S:Nat→Bool}
theorem FrzL.same {l:List C}(h:noOw l=true):FrzL H S l l:=by
 induction l with
 |nil=>exact .nil
 |cons c r ih=>
  simp only[noOw,List.all_cons,Jb,J6]at h ih;exact .cons (.same _ h.1) (ih (by simpa using h.2))
end Go.AE
namespace Go.AE.Y
variable {H:Heap}{S:Nat→Bool}
theorem FrzR.same {l:List (List C)}(h:∀r∈l,noOw r=true):FrzR H S l l:=by
 induction l with
 |nil=>exact .nil
 |cons c r ih=>exact .cons (.same (h _ J5)) (ih fun x hx=>h x (J3 _ hx))
theorem FrzR.app {a a' b b':List (List C)}(h:FrzR H S a a')(k:FrzR H S b b'):FrzR H S (a++b) (a'++b'):=by
 induction h with
 |nil=>exact k
 |cons h t ih=>exact .cons h ih
end Go.AE.Y
namespace Go.AE
open Go.AE.Y
variable {H:Heap}{S:Nat→Bool}
theorem Upd.set2 {H H':Heap}{a b:Nat}{oa ob o:Obj}(h:Upd H H' [(a,oa),(b,ob)])(hn:a≠b):Upd H (H'.set b o) [(a,oa),(b,o)]:=by
 refine⟨fun p hp=>?_,fun m hm hx=>?_⟩
 ·simp at hp;rcases hp with rfl|rfl
  ·show (H'.set b o) a=oa;rw[Heap.set_other _ _ hn];exact h.1 (a,oa) (by simp)
  ·exact Heap.set_same _ _ _
 ·have:m≠b:=by simp at hx;exact hx.2
  rw[Heap.set_other _ _ this];exact h.2 m hm (by simpa using hx)
end Go.AE
namespace Go.AE.Y
variable {H:Heap}{S:Nat→Bool}
inductive St where
 |mk (op:Int) (name:List UInt8) (args:List Ex) (body els:List St)
def St.op:St→Int|.mk op _ _ _ _=>op
def St.name:St→List UInt8|.mk _ s _ _ _=>s
def St.args:St→List Ex|.mk _ _ a _ _=>a
def St.body:St→List St|.mk _ _ _ b _=>b
def St.els:St→List St|.mk _ _ _ _ e=>e
mutual
def St.cells:St→List C
 |.mk op name args body els=>[.int .i64 op,.str name,.sl false 4 (Qw args),.sl false 5 (Qk body),.sl false 5 (Qk els)]
def Qk:List St→List (List C)
 |[]=>[]
 |x::r=>x.cells::Qk r
end
theorem St.cells_eq (x:St):x.cells=[.int .i64 x.op,.str x.name,.sl false 4 (Qw x.args),.sl false 5 (Qk x.body),.sl false 5 (Qk x.els)]:=by
 cases x;simp[St.cells,St.op,St.name,St.args,St.body,St.els]
theorem Qsu (l:List St):Qk l=l.map St.cells:=by
 induction l with
 |nil=>simp[Qk]
 |cons x r ih=>simp[Qk,ih]
theorem Qv (l:List St):(Qk l).length=l.length:=by simp[Qsu]
theorem Qbg (l:List St)(i:Nat)(h:i<l.length):(Qk l).getD i []=(l[i]'h).cells:=by
 simp[Qsu,Jc,h]
theorem Qo4 (a b:List St):Qk a++Qk b=Qk (a++b):=by simp[Qsu]
theorem Qaxk (a:List St)(x:St):Qk a++[x.cells]=Qk (a++[x]):=by simp[Qsu]
theorem St.noOw (x:St):Go.AE.noOw x.cells=true:=by rw[x.cells_eq];rfl
theorem Qa9 (l:List St):∀r∈Qk l,Go.AE.noOw r=true:=by
 intro r hr;rw[Qsu]at hr;obtain⟨x,_,rfl⟩:=Jv.1 hr;exact x.noOw
theorem St.cells_len (x:St):x.cells.length=5:=by rw[x.cells_eq];rfl
mutual
def St.size:St→Nat
 |.mk _ _ args body els=>1+Qr args+Qh body+Qh els
def Qh:List St→Nat
 |[]=>0
 |x::r=>x.size+Qh r
end
mutual
def St.ok:St→Prop
 |.mk _ _ args body els=>0<args.length∧Qda args∧Qcy body∧Qcy els
def Qcy:List St→Prop
 |[]=>True
 |x::r=>x.ok∧Qcy r
end
theorem Qarv {l:List St}(h:Qcy l):∀x∈l,x.ok:=by
 induction l with
 |nil=>simp
 |cons y r ih=>
  simp only[Qcy]at h;intro x hx;rcases J1.1 hx with rfl|hx
  ·exact h.1
  ·exact ih h.2 x hx
theorem Qaru {a b:List St}(ha:Qcy a)(hb:Qcy b):Qcy (a++b):=by
 induction a with
 |nil=>exact hb
 |cons x r ih=>simp only[Qcy]at ha;exact⟨ha.1,ih ha.2⟩
theorem Qbt (a b:List St):Qh (a++b)=Qh a+Qh b:=by
 induction a with
 |nil=>simp[Qh]
 |cons x r ih=>simp[Qh,ih];omega
theorem St.size_eq (x:St):x.size=1+Qr x.args+Qh x.body+Qh x.els:=by cases x;simp[St.size,St.args,St.body,St.els]
theorem St.ok_eq (x:St):x.ok=(0<x.args.length∧Qda x.args∧Qcy x.body∧Qcy x.els):=by cases x;simp[St.ok,St.args,St.body,St.els]
theorem Qbl {l:List St}{x:St}(h:x∈l):x.size≤Qh l:=by
 induction l with
 |nil=>simp at h
 |cons y r ih=>
  simp only[Qh];rcases J1.1 h with rfl|h
  ·omega
  ·have:=ih h;omega
structure Fn where
 name:List UInt8
 params:List (List UInt8)
 body:List St
def Fn.cells (f:Fn):List C:=[.str f.name,.sl false 1 (Q9 f.params),.sl false 5 (Qk f.body)]
def Q3 (l:List Fn):List (List C):=l.map Fn.cells
theorem Qx (l:List Fn):(Q3 l).length=l.length:=by simp[Q3]
theorem Qat (l:List Fn)(i:Nat)(h:i<l.length):(Q3 l).getD i []=(l[i]'h).cells:=by
 simp[Q3,Jc,h]
theorem Q3x (a:List Fn)(x:Fn):Q3 a++[x.cells]=Q3 (a++[x]):=by simp[Q3]
theorem Fn.noOw (x:Fn):Go.AE.noOw x.cells=true:=rfl
theorem Fn.cells_len (x:Fn):x.cells.length=3:=rfl
theorem Qc3 (l:List Fn):∀r∈Q3 l,Go.AE.noOw r=true:=by
 intro r hr;obtain⟨x,_,rfl⟩:=Jv.1 hr;exact x.noOw
structure GS where
 fns:List Fn
 ffl:C×List (Nat×Obj)
 vars:List (List UInt8)
 vfl:Bool
 next:Int
 left:Int
def GS.o (s:GS)(R:Rdr):Obj:=.st [.ptr R.l 0,s.ffl.1,.sl s.vfl 1 (Q9 s.vars),.int .i64 s.next,.int .i64 s.left]
theorem GS.o_ne (s:GS)(R:Rdr):s.o R≠.none:=by simp[GS.o]
structure GS.ok (s:GS)(k:Nat):Prop where
 n0:-1≤s.next
 n1:s.next≤k+10
 l0:-(4 * (k:Int)+10)≤s.left
 l1:s.left≤100
 v:s.vars.length≤k+10
 f:∀f∈s.fns,f.params.length≤3
 fn:s.fns.length≤3
theorem GS.ok.mono {s:GS}{k k':Nat}(h:s.ok k)(hk:k≤k'):s.ok k':=
 ⟨h.n0,by have:=h.n1;omega,by have:=h.l0;omega,h.l1,by have:=h.v;omega,h.f,h.fn⟩
end Go.AE.Y
namespace Go.AE.Y
open Go.Proofs.Tryz
theorem Qax5 {R:Rdr}{gl k:Nat}{s:GS}{H:Heap}{K:V→Heap→Prop}(hR:H R.l=R.o k)(hG:H gl=s.o R)(hne:R.l≠gl)(hs:s.ok k)(hk:k+2≤2^30)
  (hK:∀(name:List UInt8) (H':Heap) (k':Nat),k+1≤k'→k'≤k+2→Upd H H' [(R.l,R.o k'),(gl,GS.o { s with next:=s.next+1 } R)]→K (.c (.str name)) H') :
  Qj prog Qqa [.c (.ptr gl 0)] H K:=by
 have h0:=hs.n0;have h1':=hs.n1;refine Qn ?_;refine Qb Qad Qayh ?_;refine Qa ?_;simp only[go_sem];refine Qa ?_;simp only[go_sem,hG,GS.o];refine⟨Qm (by omega) (by omega),fun H1 h1=>?_⟩;have kn:Kn H H1 [(R.l,R.o k),(gl,GS.o { s with next:=s.next+1 } R)] []:=(Kn.start2 hR (R.o_ne k) hG (s.o_ne R) hne).stE 1 rfl h1;have hG1:=kn.e 1 rfl;refine Q5 ?_;refine Qa ?_;simp only[go_sem,hG1,GS.o];refine Qcp (kn.e 0 rfl) (by omega) fun v H2 hv hu=>?_;have kn:=kn.callE 0 rfl hu (R.o_ne _);have hG2:=kn.e 1 rfl;simp only[go_sem,Qvk,hG2,GS.o];intro hl;refine Qg (Qc rfl ?_ ?_)
 ·intro hc;have hv0:0<s.vars.length:=by
   rw[Qo]at hc;cases h:decide (v=0) <;> rw[h]at hc <;> simp_all
  refine Qaf ?_;simp only[go_sem,hG2,GS.o];refine of_c (kn.e 0 rfl) (by omega) hv0 fun name H3 hn hu=>?_;have kn:=kn.callE 0 rfl hu (R.o_ne _);simp only[go_sem,Qvl];refine Qi ?_;simp only[go_sem,Qq,Q7,Qfh,Ja,forall_eq,RS.op];exact⟨_,.c _ _ (Qd rfl),hK _ _ (k+1+1) (by omega) (by omega) kn.fin⟩
 ·intro hc;refine Qf ?_;simp only[go_sem];refine Qaf ?_;have e1:0≤(s.next+1).tmod 24:=Int.tmod_nonneg _ (by omega);have e2:(s.next+1).tmod 24<24:=Int.tmod_lt_of_pos _ (by omega);simp only[go_sem,hG2,GS.o];refine⟨by omega,by omega,Qm (by omega) (by omega),by omega,?_⟩;refine Qi ?_;simp only[go_sem,Qq,Q7,Qfh,Ja,forall_eq,RS.op];exact⟨_,.c _ _ (Qd rfl),hK _ _ (k+1) (by omega) (by omega) kn.fin⟩
theorem Qali {R:Rdr}{gl k:Nat}{s:GS}{x:Ex}{fl:Bool}{H:Heap}{K:V→Heap→Prop}(hR:H R.l=R.o k)(hG:H gl=s.o R)(hne:R.l≠gl)(hs:s.ok k)(hk:k+2≤2^30)
  (hK:∀(name:List UInt8) (H':Heap) (k':Nat),k+1≤k'→k'≤k+2→Upd H H' [(R.l,R.o k'),(gl,GS.o { s with next:=s.next+1,vars:=s.vars++[name],vfl:=false } R)]→K (.ag (St.mk 1 name [x] [] []).cells) H') :
  Qj prog Qpe [.c (.ptr gl 0),.ag [.int .i64 x.op,.int .i64 x.n,.str x.name,.sl fl 4 (Qw x.kids)]] H K:=by
 have hv:=hs.v;refine Qakp ?_;refine Qb Qad Qa6k ?_;refine Qa ?_;simp only[go_sem];intro y hy H1 h1;have kn:=(Kn.start2 hR (R.o_ne k) hG (s.o_ne R) hne).al hy h1;refine Qa ?_;simp only[go_sem];refine Qax5 (kn.e 0 rfl) (kn.e 1 rfl) hne hs hk fun name H2 k' g1 g2 hu=>?_;have kn:=kn.callEE 0 1 rfl rfl (by decide) hu (R.o_ne _) (GS.o_ne _ _);have hG2:=kn.e 1 rfl;simp only[go_sem,Q7g];refine Qa ?_;have hL:s.vars.length≤LIM:=by simp only[LIM];omega
 have hL1:s.vars.length+1≤LIM:=by simp only[LIM];omega
 simp only[go_sem,hG2,GS.o,Qo,Ju,Jm,hL];refine⟨.inl trivial,Qb1 _,?_⟩;intro z hz H3 h3;have kn:=kn.al hz h3;have hz3:=kn.l 1 rfl;have hG3:=kn.e 1 rfl;simp only[go_sem,Q7i,hz3,Qo,Quy,hL1,Jd];refine⟨by omega,fun z' hz' H4 h4=>?_⟩;have kn:=kn.ap 1 rfl hz' h4;have hG4:=kn.e 1 rfl;simp only[go_sem,Q7h,hG4,GS.o];intro H5 h5;have kn:=kn.stE 1 rfl h5;have hy5:=kn.l 0 rfl;refine Qa ?_;simp only[go_sem,hy5];intro H6 h6;have kn:=kn.stL 0 rfl h6;have hy6:=kn.l 0 rfl;refine Qi ?_;simp only[go_sem,Qq,Q7,Qama,Ja,forall_eq,RS.op,hy6];refine⟨un H,(.ag (St.mk 1 name [x] [] []).cells),(H6.frz (un H)).set gl (GS.o { s with next:=s.next+1,vars:=s.vars++[name],vfl:=false } R),?_,?_,hK name _ k' g1 g2 (kn.fin.set2 hne)⟩
 ·simp only[St.cells,Qw,Qk,x.cells_eq];exact (FrzL.cons (Qd rfl) (.cons (Qd rfl) (.cons (FrzR.cons (.cons (Qd rfl) (.cons (Qd rfl) (.cons (Qd rfl) (.cons (FrzR.same (Qa5 _)).sl .nil)))) .nil).sl (.cons (FrzR.nil).sl (.cons (FrzR.nil).sl .nil))))).ag
 ·refine (Q3y _ _).set (Qbag (kn.usedE 1 rfl)) ?_;rw[kn.e 1 rfl];refine FrzKL.st (.same (.same (.cons rfl ?_ (.same (.same .nil)))));exact Qaxz (kn.un 1 rfl) (kn.l 1 rfl) (by simp[Q9]) (Qabi (Qb1 _))
end Go.AE.Y
namespace Go.AE
variable {H0 H H':Heap}{E L B:List (Nat×Obj)}
theorem Upd.drop2 {H H':Heap}{a b:Nat}{oa ob:Obj}(h:Upd H H' [(a,oa),(b,ob)])(hb:H b=ob):Upd H H' [(a,oa)]:=by
 refine⟨fun p hp=>h.1 p (by simp at hp;subst hp;simp),fun m hm hx=>?_⟩;by_cases hmb:m=b
 ·subst hmb;rw[hb];exact h.1 (m,ob) (by simp)
 ·exact h.2 m hm (by simp at hx⊢;exact⟨hx,hmb⟩)
theorem Kn.perm {L':List (Nat×Obj)}(h:Kn H0 H E L)(hp:L.Perm L'):Kn H0 H E L':=
 ⟨fun p hp'=>h.get p (by
   rcases Jf.1 hp' with a|a
   ·exact Jh _ a
   ·exact Jg _ (hp.mem_iff.2 a)),h.ext,fun p hp'=>h.loc p (hp.mem_iff.2 hp'),h.dE,(hp.map Prod.fst).nodup_iff.1 h.dL,h.chg⟩
def Gr (Lg:List (Nat×Obj))(sz:Nat)(rows:List (List C))(c:C):Prop:=
 (c=.sl true sz []∧rows=[]∧Lg=[])∨∃y,c=.vsl y sz 0 rows.length∧Lg=[(y,.vec sz rows)]
theorem Gr.nil (sz:Nat):Gr [] sz [] (.sl true sz []):=.inl ⟨rfl,rfl,rfl⟩
theorem Gr.mk (y sz:Nat)(rows:List (List C)){n:Nat}(hn:n=rows.length):Gr [(y,.vec sz rows)] sz rows (.vsl y sz 0 n):=.inr ⟨y,by rw[hn],rfl⟩
variable {sz:Nat}{rows:List (List C)}{c:C}{Lg:List (Nat×Obj)}
theorem Gr.isOw (h:Gr Lg sz rows c):c.isOw=false:=by rcases h with ⟨rfl,_⟩|⟨y,rfl,_⟩ <;> rfl
theorem Gr.elemSz (h:Gr Lg sz rows c):c.elemSz=sz:=by rcases h with ⟨rfl,_⟩|⟨y,rfl,_⟩ <;> rfl
theorem Gr.lenC (h:Gr Lg sz rows c):lenC c=rows.length:=by
 rcases h with ⟨rfl,rfl,_⟩|⟨y,rfl,_⟩ <;> rfl
theorem Gr.get (h:Gr Lg sz rows c)(kn:Kn H0 H E (B++Lg)):okSl H c∧rowsOf H c=rows:=by
 rcases h with ⟨rfl,rfl,_⟩|⟨y,rfl,rfl⟩
 ·exact⟨trivial,rfl⟩
 ·have hy:H y=.vec sz rows:=(kn.get (y,.vec sz rows) (by simp)).1;refine⟨?_,?_⟩
  ·simp[okSl,hy]
  ·simp[rowsOf,hy]
theorem Gr.okSl (h:Gr Lg sz rows c)(kn:Kn H0 H E (B++Lg)):Go.AE.okSl H c:=(h.get kn).1
theorem Gr.rowsOf (h:Gr Lg sz rows c)(kn:Kn H0 H E (B++Lg)):Go.AE.rowsOf H c=rows:=(h.get kn).2
theorem Gr.frz (h:Gr Lg sz rows c)(kn:Kn H0 H E (B++Lg))(hr:∀r∈rows,noOw r=true):FrzC H (un H0) c (.sl false sz rows):=by
 rcases h with ⟨rfl,rfl,_⟩|⟨y,rfl,rfl⟩
 ·exact Y.FrzR.nil.sl
 ·exact (Y.FrzR.same hr).vsl (Qu0 (kn.loc (y,.vec sz rows) (by simp))) (kn.get (y,.vec sz rows) (by simp)).1 rfl
theorem Gr.frzR {rows':List (List C)}(h:Gr Lg sz rows c)(kn:Kn H0 H E (B++Lg))(hr:Y.FrzR H (un H0) rows rows'):FrzC H (un H0) c (.sl false sz rows'):=by
 rcases h with ⟨rfl,rfl,_⟩|⟨y,rfl,rfl⟩
 ·cases hr;exact Y.FrzR.nil.sl
 ·exact hr.vsl (Qu0 (kn.loc (y,.vec sz rows) (by simp))) (kn.get (y,.vec sz rows) (by simp)).1 rfl
structure Slc (H:Heap)(sz:Nat)(rws:List (List C))(b:C):Prop where
 ok:okSl H b
 sz:b.elemSz=sz
 rows:rowsOf H b=rws
 len:Go.AE.lenC b=rws.length
theorem Slc.mk' (H:Heap)(fl:Bool)(sz:Nat)(rows:List (List C)):Slc H sz rows (.sl fl sz rows):=⟨trivial,rfl,rfl,rfl⟩
theorem Kn.grow {K:V→Heap→Prop}{new:List (List C)}{b:C}(kn:Kn H0 H E (B++Lg))(hc:Gr Lg sz rows c)(hb:Slc H sz new b)
  (h1:∀r∈new,noOw r=true) (h2:rows.length+new.length≤LIM)
  (h:∀y' H',Kn H0 H' E (B++[(y',.vec sz (rows++new))])→K (.c (.vsl y' sz 0 (rows.length+new.length))) H'):appQ H sz c b K:=by
 refine⟨hb.ok,hb.sz,?_⟩;rcases hc with ⟨rfl,rfl,rfl⟩|⟨y,rfl,rfl⟩
 ·simp only[hb.rows,hb.len,Jm,J2,Ju];refine⟨trivial,.inl trivial,h1,by simpa using h2,fun l hl H' hH'=>?_⟩;rw[J9]at kn;have:=h l H' (by simpa using kn.al hl hH');simpa using this
 ·have hy:H y=.vec sz rows:=(kn.get (y,.vec sz rows) (by simp)).1;simp only[hy,hb.rows,hb.len,Jao,List.take_length];refine⟨trivial,trivial,by omega,h1,h2,fun l' hl' H' hH'=>?_⟩;refine h l' H' ?_;have:=kn.ap B.length (y:=y) (o:=.vec sz rows) (by simp) hl' hH';simpa using this
end Go.AE
namespace Go.AE.Y
variable {H H':Heap}{R:Rdr}{gl:Nat}{s s':GS}{L:List (Nat×Obj)}{o q:Obj}
def FnsOk (H:Heap)(R:Rdr)(gl:Nat)(s:GS):Prop:=Gr s.ffl.2 3 (Q3 s.fns) s.ffl.1∧∀p∈s.ffl.2,H p.1=p.2∧p.1≠R.l∧p.1≠gl
theorem FnsOk.keep (h:FnsOk H R gl s)(kn:Kn H H' [(R.l,o),(gl,q)] L)(h1:s'.fns=s.fns)(h2:s'.ffl=s.ffl):FnsOk H' R gl s':=by
 refine⟨by rw[h1,h2];exact h.1,fun p hp=>?_⟩;rw[h2]at hp;obtain⟨a1,a2,a3⟩:=h.2 p hp;refine⟨?_,a2,a3⟩;have hn:p.2≠.none:=by
  rcases h.1 with ⟨_,_,hx⟩|⟨y,_,hx⟩
  ·rw[hx]at hp;simp at hp
  ·rw[hx]at hp;simp at hp;subst hp;simp
 rw[kn.chg p.1 (by rw[a1];exact hn) (by simp[a2,a3]),a1]
theorem FnsOk.rd (h:FnsOk H R gl s):okSl H s.ffl.1=True∧rowsOf H s.ffl.1=Q3 s.fns:=by
 rcases h.1 with ⟨h1,h2,h3⟩|⟨y,h1,h3⟩
 ·rw[h1,h2];exact⟨rfl,rfl⟩
 ·have hy:H y=.vec 3 (Q3 s.fns):=(h.2 (y,.vec 3 (Q3 s.fns)) (by rw[h3];simp)).1;rw[h1];exact⟨by simp[okSl,hy],by simp[rowsOf,hy]⟩
theorem FnsOk.ok (h:FnsOk H R gl s)(kn:Kn H H' [(R.l,o),(gl,q)] L):okSl H' s.ffl.1=True:=(h.keep kn rfl rfl).rd.1
theorem FnsOk.rows (h:FnsOk H R gl s)(kn:Kn H H' [(R.l,o),(gl,q)] L):rowsOf H' s.ffl.1=Q3 s.fns:=(h.keep kn rfl rfl).rd.2
theorem FnsOk.len (h:FnsOk H R gl s):lenC s.ffl.1=s.fns.length:=by rw[h.1.lenC,Qx]
theorem FnsOk.esz (h:FnsOk H R gl s):s.ffl.1.elemSz=3:=h.1.elemSz
theorem FnsOk.ow (h:FnsOk H R gl s):s.ffl.1.isOw=false:=h.1.isOw
end Go.AE.Y
namespace Go.AE.Y
open Go.Proofs.Tryz
theorem Qdd {R : Rdr} {gl k : Nat} {s : GS} {H : Heap} {K : V → Heap → Prop} (deep : Int) (hd : deep ≤ 3) (hR : H R.l = R.o k) (hG : H gl = s.o R) (hne : R.l ≠ gl) (hs : s.ok k) (hF : FnsOk H R gl s) (hk : k + 200 ≤ 2^30)
    (hK : ∀ (x : Ex) (H' : Heap) (k' : Nat), k < k' → k' ≤ k + 200 → Upd H H' [(R.l, R.o k')] → x.ok → k + x.size ≤ k' → K (.ag x.cells) H') :
    Qj prog Qbv [.c (.ptr gl 0), .c (.int .i64 deep)] H K := by
  have hfl := hs.fn;refine Qn ?_;refine Qb Qad Qa1z ?_;refine Qa ?_;simp only [go_sem];intro x4 hx4 H1 h1;have kn := (Kn.start2 hR (R.o_ne k) hG (s.o_ne R) hne).al hx4 h1;have hG1 := kn.e 1 rfl;refine Qaf ?_;simp only [go_sem, hG1, GS.o];refine Qaa6 3 deep (by omega) (kn.e 0 rfl) (by omega) fun e H2 k2 g1 g2 hu heok hesz => ?_;have kn := kn.callE 0 rfl hu (R.o_ne _);have hG2 := kn.e 1 rfl;simp only [go_sem, Q1a];intro x5 hx5 H3 h3;have kn := kn.al hx5 h3;have hG3 := kn.e 1 rfl;have hx53 := kn.l 1 rfl;simp only [go_sem, Q09, hG3, hx53, GS.o, e.cells_eq];intro H4 h4;have kn := kn.stL 1 rfl h4;have hG4 := kn.e 1 rfl;refine Q5 ?_;refine Qa ?_;simp only [go_sem, hG4, GS.o, hF.ow, hF.ok kn, hF.len];intro hl;have fin : ∀ (op n : Int) (name : List UInt8) (c : C) (kids : List Ex) (H3 : Heap) (k3 : Nat) (L : List (Nat × Obj)), k < k3 → k3 ≤ k + 200 → Kn H H3 [(R.l, R.o k3), (gl, s.o R)] L →
      L[0]? = some (x4, .st [.int .i64 op, .int .i64 n, .str name, c]) → c.isOw = false → FrzC H3 (un H) c (.sl false 4 (Qw kids)) → (Ex.mk op n name kids).ok → k + (Ex.mk op n name kids).size ≤ k3 →
      Q7 Qps [(4, V.c (C.ptr x4 0))] H3 (unK H K) := by
    intro op n name c kids H3 k3 L g1 g2 kn g3 hno g4 g5 g6;have hx3 := kn.l 0 g3;simp only [go_sem, Q7, Qps, Ja, forall_eq, RS.op, hx3, hno];refine ⟨(.ag (Ex.mk op n name kids).cells), ?_, hK _ _ k3 g1 g2 (kn.fin.drop2 hG) g5 g6⟩;rw [Ex.cells_eq];exact (FrzL.cons (Qd rfl) (.cons (Qd rfl) (.cons (Qd rfl) (.cons g4 .nil)))).ag
  have rest : ∀ (b : Bool) (H2 : Heap) (k3 : Nat), k2 ≤ k3 → k3 ≤ k2 + 1 → Kn H H2 [(R.l, R.o k3), (gl, s.o R)] [(x4, .st [.int .i64 0, .int .i64 0, .str [], .sl true 4 []]), (x5, .st [.int .i64 e.op, .int .i64 e.n, .str e.name, .sl false 4 (Qw e.kids)])] →
      (b = false → 0 < s.fns.length) →
      Q8 prog (s_l3Gen_expr_3.seq Q08) (Qq Qps (unK H K))
       [(0, V.c (C.ptr gl 0)), (4, V.c (C.ptr x4 0)), (5, V.c (C.ptr x5 0)), (32, .c (.bool b))] H2 := by
    intro b H2 k3 g3 g4 kn hb;have hx52 := kn.l 1 rfl;have hx42 := kn.l 0 rfl;refine Qg (Qc rfl ?_ ?_)
    · intro hb';refine Qa ?_;simp only [go_sem, hx52, hx42];intro H3 h3;have kn := kn.stL 0 rfl h3;refine Qi ?_;simp only [go_sem, Qq]
      cases e with
      | mk op n name kids => exact fin op n name _ kids H3 k3 _ (by omega) (by omega) kn rfl rfl (Qbg4 (Qabi (Qa5 _))) heok (by omega)
    · intro hb';have hfn := hb hb';refine Qf ?_;simp only [go_sem];have hG3 := kn.e 1 rfl;refine Qaf ?_;simp only [go_sem, hG3, GS.o, hF.ow, hF.ok kn, hF.len];refine Qcp (kn.e 0 rfl) (by omega) fun v H3 hv hu => ?_;have kn := kn.callE 0 rfl hu (R.o_ne _);rw [if_neg (by omega)] at hv;obtain ⟨i, rfl⟩ := Jag hv.1;have hi : i < s.fns.length := (by omega);have hG4 := kn.e 1 rfl;simp only [go_sem, Q1c, hG4, GS.o, hF.ow, hF.ok kn, hF.len, hF.rows kn, hF.esz, hi, Qat _ _ hi, Fn.cells];intro x6 hx6 H4 h4;have kn := kn.al hx6 h4;have hG5 := kn.e 1 rfl;have hx64 := kn.l 2 rfl;simp only [go_sem, Q1b, hG5, hx64, GS.o, hF.ow, hF.ok kn, hF.len, hF.rows kn, hF.esz, hi, Qat _ _ hi, Fn.cells];have hpar := hs.f _ (Je hi);generalize s.fns[i] = f at *;intro H5 h5;have kn := kn.stL 2 rfl h5;have hx65 := kn.l 2 rfl;refine Qa ?_;simp only [go_sem, hx65];intro x7 hx7 H6 h6;have kn := kn.al hx7 h6;have hx67 := kn.l 2 rfl;have hx77 := kn.l 3 rfl;simp only [go_sem, Q1d, hx77];intro H7 h7;have kn := kn.stL 3 rfl h7;refine Q5 ?_;refine Qa ?_;simp only [go_sem];refine Qg (Qe (Q2 (fun n e1 H1 => ∃ (i k4 : Nat) (kids : List Ex) (c : C) (Lg : List (Nat × Obj)), n = f.params.length - i ∧ i ≤ f.params.length ∧ k4 ≤ k3 + 1 + 21 * i ∧ k3 + 1 + Qr kids ≤ k4 ∧ Qda kids ∧ kids.length = i ∧
        Gr Lg 4 (Qw kids) c ∧ Kn H H1 [(R.l, R.o k4), (gl, s.o R)] ([(x4, .st [.int .i64 0, .int .i64 0, .str [], .sl true 4 []]), (x5, .st [.int .i64 e.op, .int .i64 e.n, .str e.name, .sl false 4 (Qw e.kids)]),
          (x6, .st [.str f.name, .sl false 1 (Q9 f.params), .sl false 5 (Qk f.body)]), (x7, .st [.int .i64 13, .int .i64 0, .str f.name, c])] ++ Lg) ∧
        e1 = [(0, V.c (C.ptr gl 0)), (4, V.c (C.ptr x4 0)), (6, V.c (C.ptr x6 0)), (7, V.c (C.ptr x7 0)), (8, V.c (C.int IntKind.i64 i))]) f.params.length ?_ ?_))
      · exact ⟨0, k3 + 1, [], _, [], by omega, by omega, by omega, by simp [Qr], trivial, rfl, .nil 4, kn, rfl⟩
      · rintro n e1 H1 ⟨i, k4, kids, c, Lg, hn, hi1, hk4, hksz, hkok, hkl, hgr, kn, rfl⟩;have hx61 := kn.l 2 rfl;have hx71 := kn.l 3 rfl;have hG1 := kn.e 1 rfl;refine Q5 ?_;refine Qa ?_;simp only [go_sem, hx61, Qo];intro hpl;refine Qg (Qc rfl ?_ ?_)
        · intro hc;have hlt : i < f.params.length := (by simpa using hc);refine Qf ?_;simp only [go_sem];refine Qg (Qe (Qe8 ?_));have hcow := hgr.isOw;simp only [go_sem, hx71, hG1, GS.o, hcow];refine Qaa6 2 2 (by omega) (kn.e 0 rfl) (by omega) fun z H2 k5 g5 g6 hu hok hsz => ?_;have kn := kn.callE 0 rfl hu (R.o_ne _);have hx72 := kn.l 3 rfl;simp only [go_sem, Q1f, hx72, hcow, z.cells_len];refine kn.grow (new := [z.cells]) hgr (.mk' _ _ _ _) (by simp [z.noOw]) (by simp only [Ql, Jn, J2, LIM]; omega) fun y' H3 kn => ?_;have hx73 := kn.l 3 rfl;simp only [go_sem, Q1e, hx73];intro H4 h4;have kn := kn.stL 3 rfl h4;refine Qp ?_;simp only [go_sem];refine ⟨Qm (by omega) (by omega), ?_⟩;refine ⟨f.params.length - (i + 1), by omega, i + 1, k5, kids ++ [z], _, _, rfl, by omega, by omega, ?_, Qbgw hkok ⟨hok, trivial⟩, by simp [hkl], ?_, kn, ?_⟩
          · simp only [Qnv, Qr]; omega
          · rw [← Qf1]; exact .mk _ _ _ (by simp)
          · simp
        · intro hc;have hge : f.params.length ≤ i := (by simpa using hc);refine Q1 ?_;simp only [go_sem, X.next];refine Q5 ?_;refine Qa ?_;simp only [go_sem, hG1, GS.o];refine Qcp (kn.e 0 rfl) (by omega) fun v H2 hv hu => ?_;have kn := kn.callE 0 rfl hu (R.o_ne _);have hx72 := kn.l 3 rfl;have hx42 := kn.l 0 rfl;have hcow := hgr.isOw;have hG2 := kn.e 1 rfl;simp only [go_sem, Qvh];refine Qg (Qc rfl ?_ ?_)
          · intro hc;refine Qa ?_;simp only [go_sem, hx72, hx42, hcow];intro H3 h3;have kn := kn.stL 0 rfl h3;refine Qi ?_;simp only [go_sem, Qq];refine fin 13 0 f.name c kids H3 (k4 + 1) _ (by omega) (by omega) kn rfl hcow (hgr.frz (B := [_, _, _, _]) kn (Qa5 _)) ?_ ?_
            · simp only [Ex.ok]; exact ⟨fun h => by simp at h, hkok⟩
            · simp only [Ex.size]; omega
          · intro hc;refine Qf ?_;simp only [go_sem];refine Qaf ?_;simp only [go_sem, hx72, hG2, hcow, GS.o];refine Qys (ns := [3, 4, 8, 10]) (kn.e 0 rfl) (by omega) (by simp) fun op H3 hop hu => ?_;have kn := kn.callE 0 rfl hu (R.o_ne _);have hx73 := kn.l 3 rfl;have hG3 := kn.e 1 rfl;simp only [go_sem, Qvj, hx73, hG3, hcow, GS.o];refine Qaa6 2 2 (by omega) (kn.e 0 rfl) (by omega) fun z H4 k5 g5 g6 hu hok hsz => ?_;have kn := kn.callE 0 rfl hu (R.o_ne _);have hx74 := kn.l 3 rfl;have hx44 := kn.l 0 rfl;simp only [go_sem, Qvi, hx74, hx44, hcow, z.cells_len];intro H5 h5;have kn := kn.stL 0 rfl h5;refine Qi ?_;simp only [go_sem, Qq];refine fin op 0 [] _ [Ex.mk 13 0 f.name kids, z] H5 k5 _ (by omega) (by omega) kn rfl rfl ?_ ?_ ?_
            · refine FrzR.sl (.cons ?_ (.cons (.same z.noOw) .nil));rw [Ex.cells_eq];exact .cons (Qd rfl) (.cons (Qd rfl) (.cons (Qd rfl) (.cons (hgr.frz (B := [_, _, _, _]) kn (Qa5 _)) .nil)))
            · simp only [Ex.ok, Qda]; exact ⟨fun h => rfl, ⟨fun h => by simp at h, hkok⟩, hok, trivial⟩
            · simp only [Ex.size, Qr]; omega
  refine ⟨fun hb => ?_, fun hb => ?_⟩
  · refine Qcp (kn.e 0 rfl) (by omega) fun v H5 hv hu => ?_;have kn := kn.callE 0 rfl hu (R.o_ne _);simp only [go_sem, Qo0];refine rest _ H5 (k2 + 1) (by omega) (by omega) kn ?_;intro h;have : ¬ s.fns.length = 0 := (by simpa using hb);omega
  · have hb2 : decide ((s.fns.length : Int) = 0) = true := (by simpa using hb);simp only [go_sem, Qo0, hb2];exact rest true H4 k2 (by omega) (by omega) kn (fun h => by simp at h)
end Go.AE.Y
namespace Go.AE
variable {H0 H H':Heap}{E L B E0 L0 Lg:List (Nat×Obj)}
def New (H H':Heap)(N:List (Nat×Obj)):Prop:=∀p∈N,H p.1=.none∧H' p.1=p.2
theorem Kn.add1 (kn0:Kn H0 H E0 L0)(kn:Kn H0 H' E L)(hE:E.map Prod.fst=E0.map Prod.fst)(hL:L.map Prod.fst=L0.map Prod.fst){x:Nat}{o:Obj}(hx:H x=.none)(hx':H' x=o)(ho:o≠.none):Kn H0 H' E (L++[(x,o)]):=by
 obtain⟨h1,h2,h3⟩:=kn0.newFree hx;refine⟨fun p hp=>?_,kn.ext,fun p hp=>?_,kn.dE,?_,kn.chg⟩
 ·rw[←Js]at hp;rcases Jf.1 hp with hp|hp
  ·exact kn.get p hp
  ·simp at hp;subst hp;exact⟨hx',ho⟩
 ·rcases Jf.1 hp with hp|hp
  ·exact kn.loc p hp
  ·simp at hp;subst hp;exact h1
 ·rw[Jo];refine Jp.2 ⟨kn.dL,by simp,fun a ha b hb=>?_⟩;simp at hb;subst hb;rw[hL]at ha;exact fun hh=>h3 (hh▸ha)
theorem Kn.addGr {sz:Nat}{rows:List (List C)}{c:C}(kn0:Kn H0 H E0 L0)(kn:Kn H0 H' E L)(hE:E.map Prod.fst=E0.map Prod.fst)(hL:L.map Prod.fst=L0.map Prod.fst)(hg:Gr Lg sz rows c)(hn:New H H' Lg):Kn H0 H' E (L++Lg):=by
 rcases hg with ⟨_,_,rfl⟩|⟨y,_,rfl⟩
 ·simpa using kn
 ·obtain⟨h1,h2⟩:=hn (y,.vec sz rows) (by simp);exact kn0.add1 kn hE hL h1 h2 (by simp)
def unx (H:Heap)(Lg:List (Nat×Obj))(m:Nat):Bool:=un H m&&!(Lg.map Prod.fst).contains m
theorem Qbbu {m:Nat}(h:H m≠.none):unx H Lg m=false:=by simp[unx,Qbag h]
theorem Qbrt {p:Nat×Obj}(h:p∈Lg):unx H Lg p.1=false:=by
 have:p.1∈Lg.map Prod.fst:=Qb6 h;simp only[unx,Bool.and_eq_false_iff,Bool.not_eq_false'];exact .inr (Jal.2 this)
theorem Kn.finx (hk:Kn H0 H E (B++Lg)):Upd H0 (H.frz (Go.AE.unx H0 Lg)) E∧New H0 (H.frz (Go.AE.unx H0 Lg)) Lg:=by
 refine⟨⟨fun p hp=>?_,fun m hm hn=>?_⟩,fun p hp=>⟨hk.loc p (Jg _ hp),?_⟩⟩
 ·have:H.frz (Go.AE.unx H0 Lg) p.1=H p.1:=by simp[Heap.frz,Qbbu (hk.ext p hp)]
  rw[this];exact (hk.get p (Jh _ hp)).1
 ·have:H.frz (Go.AE.unx H0 Lg) m=H m:=by simp[Heap.frz,Qbbu hm]
  rw[this];exact hk.chg m hm hn
 ·have:H.frz (Go.AE.unx H0 Lg) p.1=H p.1:=by simp only[Heap.frz];rw[Qbrt hp];rfl
  rw[this];exact (hk.get p (Jg _ (Jg _ hp))).1
end Go.AE
namespace Go.AE.Y
theorem Qeh {b:Bool}(h:(!b)=false):b=true:=by simpa using h
theorem Qk9 {b:Bool}(h:(!b)=true):b=false:=by simpa using h
theorem Ex.ne_nil (x:Ex):(x.cells=[])=False:=by rw[x.cells_eq];simp
theorem Ex.take4 (x:Ex):x.cells.take 4=x.cells:=Jd (by rw[x.cells_len];omega)
theorem Ex.allOw (x:Ex):(x.cells.all fun c=>!c.isOw)=true:=x.noOw
theorem St.take5 (x:St):x.cells.take 5=x.cells:=Jd (by rw[x.cells_len];omega)
theorem St.allOw (x:St):(x.cells.all fun c=>!c.isOw)=true:=x.noOw
theorem Fn.take3 (x:Fn):x.cells.take 3=x.cells:=Jd (by rw[x.cells_len];omega)
theorem Fn.allOw (x:Fn):(x.cells.all fun c=>!c.isOw)=true:=x.noOw
open Go.Proofs.Tryz
theorem Qaf3 {R:Rdr}{gl k:Nat}{s:GS}{H:Heap}{K:V→Heap→Prop}(hR:H R.l=R.o k)(hG:H gl=s.o R)(hne:R.l≠gl)(hs:s.ok k)(hF:FnsOk H R gl s)(hk:k+201≤2^30)
  (hK:∀(x:Ex) (H':Heap) (k':Nat),k<k'→k'≤k+201→Upd H H' [(R.l,R.o k')]→x.ok→2 * k+x.size≤2 * k'→K (.ag x.cells) H') :
  Qj prog Qna [.c (.ptr gl 0)] H K:=by
 refine Qn ?_;refine Qb Qad Qa1y ?_;refine Qa ?_;simp only[go_sem];intro x2 hx2 H1 h1;have kn:=(Kn.start2 hR (R.o_ne k) hG (s.o_ne R) hne).al hx2 h1;have hG1:=kn.e 1 rfl;refine Qaf ?_;simp only[go_sem,hG1,GS.o];refine Qdd 2 (by omega) (kn.e 0 rfl) (kn.e 1 rfl) hne hs (hF.keep kn rfl rfl) (by omega) fun e H2 k2 g1 g2 hu heok hesz=>?_;have kn:=kn.callE 0 rfl hu (R.o_ne _);have hG2:=kn.e 1 rfl;simp only[go_sem,Q07,hG2,GS.o];refine Qys (ns:=[16,16,16,8,17,0]) (kn.e 0 rfl) (by omega) (by simp) fun v H3 hv hu=>?_;have kn:=kn.callE 0 rfl hu (R.o_ne _);have hx23:=kn.l 0 rfl;simp only[go_sem,Q06,hx23,e.cells_len];intro H4 h4;have kn:=kn.stL 0 rfl h4;have hx24:=kn.l 0 rfl;refine Qi ?_;simp only[go_sem,Qq,Q7,Qagc,Ja,forall_eq,RS.op,hx24];refine⟨(.ag (Ex.mk 7 0 [] [e,Ex.mk 1 v [] []]).cells),?_,hK _ _ (k2+1) (by omega) (by omega) (kn.fin.drop2 hG) ?_ ?_⟩
 ·rw[Ex.cells_eq (Ex.mk 7 0 [] _)];refine FrzL.ag ?_;refine .cons (Qd rfl) (.cons (Qd rfl) (.cons (Qd rfl) (.cons (FrzR.sl (.cons (.same e.noOw) (.cons ?_ .nil))) .nil)));simp only[Ex.cells,Qw];exact .cons (Qd rfl) (.cons (Qd rfl) (.cons (Qd rfl) (.cons (FrzR.nil).sl .nil)))
 ·simp only[Ex.ok,Qda];exact⟨fun h=>rfl,heok,⟨fun h=>by simp at h,trivial⟩,trivial⟩
 ·simp only[Ex.size,Qr];omega
def Qbpc (d:Nat):Prop:=∀(R:Rdr) (gl k:Nat) (s:GS) (H:Heap) (K:V→Heap→Prop) (deep:Int),deep≤d→H R.l=R.o k→H gl=s.o R→R.l≠gl→s.ok k→FnsOk H R gl s→k+500 * 10^d≤2^30→
  (∀(l:List St) (s':GS) (H':Heap) (k':Nat),k<k'→k'≤k+500 * 10^d→Upd H H' [(R.l,R.o k'),(gl,s'.o R)]→s'.ok k'→s.left+4 * (k:Int)≤s'.left+4 * (k':Int)→s'.fns=s.fns→s'.ffl=s.ffl→l.length≤2→Qcy l→4 * k+Qh l≤4 * k'→K (.c (.sl false 5 (Qk l))) H')→
  Qj prog Qta [.c (.ptr gl 0),.c (.int .i64 deep)] H K
def Qakm (d:Nat):Prop:=∀(R:Rdr) (gl k:Nat) (s:GS) (H:Heap) (K:V→Heap→Prop) (deep:Int),deep≤d→H R.l=R.o k→H gl=s.o R→R.l≠gl→s.ok k→FnsOk H R gl s→k+2001 * 10^d≤2^30→
  (∀(l:List St) (c:C) (Lg:List (Nat×Obj)) (s':GS) (H':Heap) (k':Nat),k<k'→k'≤k+2001 * 10^d→Upd H H' [(R.l,R.o k'),(gl,s'.o R)]→Gr Lg 5 (Qk l) c→New H H' Lg→s'.ok k'→s.left+4 * (k:Int)≤s'.left+4 * (k':Int)→s'.fns=s.fns→s'.ffl=s.ffl→
   l.length≤8→Qcy l→4 * k+Qh l≤4 * k'→K (.c c) H')→
  Qj prog Qdm [.c (.ptr gl 0),.c (.int .i64 deep)] H K
theorem Qbak {d:Nat}(hS:Qbpc d):Qakm d:=by
 intro R gl k s H K deep hd hR hG hne hs hF hk hK;have hp0:d<10^d:=Jab (by omega);generalize hpe:10^d=e at *;have hS':=hS;simp only[Qbpc]at hS';rw[hpe]at hS';generalize hM:500 * e=M at *;refine Qakp ?_;refine Qb Qad Qayg ?_;refine Qa ?_;simp only[go_sem];refine Qa ?_;simp only[go_sem,hG,GS.o];refine Qa ?_;simp only[go_sem];refine Q5 ?_;refine Qa ?_;simp only[go_sem,hG,GS.o];have kn:=Kn.start2 hR (R.o_ne k) hG (s.o_ne R) hne;refine Qys (ns:=[2,3,1,4]) hR (by omega) (by simp) fun v H1 hv hu=>?_;have kn:=kn.callE 0 rfl hu (R.o_ne _);simp only[go_sem,Qve];have hv4:1≤v∧v≤4:=by simp at hv;omega
 refine Qg (Qe (Q2 (fun n e1 H1=>∃(j k4:Nat) (l:List St) (c:C) (Lg:List (Nat×Obj)) (s':GS),n=v.toNat-j∧(j:Int)≤v∧k+1≤k4∧k4≤k+1+M * j∧4 * k+Qh l≤4 * k4∧Qcy l∧l.length≤2 * j∧
    Gr Lg 5 (Qk l) c∧s'.ok k4∧s.left+4 * (k:Int)≤s'.left+4 * (k4:Int)∧s'.fns=s.fns∧s'.ffl=s.ffl∧Kn H H1 [(R.l,R.o k4),(gl,s'.o R)] ([]++Lg)∧
    e1=[(0,V.c (C.ptr gl 0)),(1,.c (.int .i64 deep)),(5,.c (.sl s.vfl 1 (Q9 s.vars))),(6,.c c),(7,V.c (C.int IntKind.i64 (v-j)))]) v.toNat ?_ ?_))
 ·exact⟨0,k+1,[],_,[],s,by omega,by omega,by omega,by omega,by simp only[Qh];omega,trivial,by simp,.nil 5,hs.mono (by omega),by omega,rfl,rfl,kn,by simp⟩
 ·rintro n e1 H1 ⟨j,k4,l,c,Lg,s',hn,hj,hk4,hk4',hsz,hok,hll,hgr,hs',hlf,hf1,hf2,kn,rfl⟩;have hG1:=kn.e 1 rfl;have hMj:M * j≤M * 4:=Jac _ (by omega);refine Q5 ?_;refine Qa ?_;simp only[go_sem,hG1,GS.o];refine Qg (Qc rfl ?_ ?_)
  ·intro hc;have hi:(j:Int)<v:=by
    cases h:decide (0<v-(j:Int))with
    |true=>have:0<v-(j:Int):=by simpa using h
           omega
    |false=>rw[h]at hc;simp at hc
   have hM1:M * (j+1)=M * j+M:=Jbd _ _;have hM2:M * (j+1)≤M * 4:=Jac _ (by omega);refine Qf ?_;simp only[go_sem];refine Qg (Qe (Qp ?_));simp only[go_sem];refine hS' _ _ _ _ _ _ deep hd (kn.e 0 rfl) (kn.e 1 rfl) hne hs' (hF.keep kn hf1 hf2) (by omega) fun l2 s2 H2 k5 g1 g2 hu g3 glf g4 g5 g6 g7 g8=>?_;have kn:=kn.callEE 0 1 rfl rfl (by decide) hu (R.o_ne _) (GS.o_ne _ _);simp only[go_sem,Qvg];refine kn.grow hgr (.mk' _ _ _ (Qk l2)) (Qa9 _) (by simp only[Qv,LIM];omega) fun y' H3 kn=>?_;simp only[go_sem,Qvf];refine Qp ?_;simp only[go_sem];refine⟨Qm (by omega) (by omega),?_⟩;simp only[X.next];refine⟨v.toNat-(j+1),by omega,j+1,k5,l++l2,.vsl y' 5 0 ((Qk l).length+(Qk l2).length),_,s2,rfl,by omega,by omega,by omega,?_,Qaru hok g7,by simp;omega,?_,g3,by omega,g4.trans hf1,g5.trans hf2,kn,?_⟩
   ·rw[Qbt];omega
   ·rw[Qo4];exact .mk _ _ _ (by simp[Qv])
   ·have:v-((j+1:Nat):Int)=v-j-1:=(by omega);rw[this]
  ·intro hc;refine Q1 ?_;simp only[go_sem,X.next];refine Qa ?_;simp only[go_sem,hG1,GS.o];intro H2 h2;have kn:Kn H H2 [(R.l,R.o k4),(gl,GS.o { s' with vars:=s.vars,vfl:=s.vfl } R)] ([]++Lg):=kn.stE 1 rfl h2;refine Qa ?_;simp only[go_sem];refine Qi ?_;simp only[go_sem,Qq,Q7,Qpr,Ja,forall_eq,RS.op];refine⟨unx H Lg,_,H2.frz (unx H Lg),.c _ _ (.same _ hgr.isOw),Q3y _ _,?_⟩;refine hK l c Lg _ _ k4 (by omega) (by omega) kn.finx.1 hgr kn.finx.2 ⟨hs'.n0,hs'.n1,hs'.l0,hs'.l1,?_,hs'.f,hs'.fn⟩ (by show _≤s'.left+_;omega) hf1 hf2 (by omega) hok hsz;have:=hs.v;show s.vars.length≤_;omega
def Qbpb (d:Nat):Prop:=∀(R:Rdr) (gl k:Nat) (s:GS) (H:Heap) (K:V→Heap→Prop) (deep:Int),deep≤d+1→2≤deep→H R.l=R.o k→H gl=s.o R→R.l≠gl→s.ok k→FnsOk H R gl s→k+2001 * 10^d+10≤2^30→
  (∀(l:List St) (s':GS) (H':Heap) (k':Nat),k+2<k'→k'≤k+2001 * 10^d+3→Upd H H' [(R.l,R.o k'),(gl,s'.o R)]→s'.ok k'→s.left+4 * (k:Int)≤s'.left+4 * (k':Int)→s'.fns=s.fns→s'.ffl=s.ffl→l.length≤2→Qcy l→4 * k+Qh l≤4 * k'→K (.c (.sl false 5 (Qk l))) H')→
  Qj prog Qs9 [.c (.ptr gl 0),.c (.int .i64 deep)] H K
theorem Qbqt {d:Nat}(hB:Qakm d):Qbpb d:=by
 intro R gl k s H K deep hd hd2 hR hG hne hs hF hk hK;have hp0:d<10^d:=Jab (by omega);have hB':=hB;simp only[Qakm]at hB';generalize hpe:10^d=e at *;refine Qn ?_;refine Qb Qad Qa10 ?_;refine Qa ?_;simp only[go_sem];refine Qa ?_;simp only[go_sem,hG,GS.o];have kn:=Kn.start2 hR (R.o_ne k) hG (s.o_ne R) hne;refine Qys (ns:=[2,3,1,0,5]) hR (by omega) (by simp) fun v H1 hv hu=>?_;have kn:=kn.callE 0 rfl hu (R.o_ne _);simp only[go_sem,Q1j];refine Qali (x:=Ex.mk 1 v [] []) (fl:=true) (kn.e 0 rfl) (kn.e 1 rfl) hne (hs.mono (Ja5 k)) (by omega) fun name H2 k2 g1 g2 hu=>?_;have kn:=kn.callEE 0 1 rfl rfl (by decide) hu (R.o_ne _) (GS.o_ne _ _);simp only[go_sem,Q1i];intro x5 hx5 H3 h3;have kn:=kn.al hx5 h3;have hx53:=kn.l 0 rfl;simp only[go_sem,Q1h,hx53,St.cells];intro H4 h4;have kn:=kn.stL 0 rfl h4;have hx54:=kn.l 0 rfl;refine Qa ?_;simp only[go_sem,hx54];intro x6 hx6 H5 h5;have kn:=kn.al hx6 h5;have hx65:=kn.l 1 rfl;simp only[go_sem,Q1k,hx65];intro H6 h6;have kn:=kn.stL 1 rfl h6;refine Qa ?_;simp only[go_sem];refine⟨Qm (by omega) (by omega),?_⟩;have hs2:GS.ok { s with next:=s.next+1,vars:=s.vars++[name],vfl:=false } k2:=by
  refine⟨?_,?_,?_,hs.l1,?_,hs.f,hs.fn⟩
  ·have:=hs.n0;show -1≤s.next+1;omega
  ·have:=hs.n1;show s.next+1≤_;omega
  ·have:=hs.l0;show _≤s.left;omega
  ·have:=hs.v;show (s.vars++[name]).length≤_;simp;omega
 refine hB' _ _ _ _ _ _ (deep-1) (by omega) (kn.e 0 rfl) (kn.e 1 rfl) hne hs2 (hF.keep kn rfl rfl) (by omega) fun l c Lg s3 H7 k3 g3 g4 hu hgr hnew hs3 glf g5 g6 g7 g8 g9=>?_;have kn0:=kn;have kn:=kn.callEE 0 1 rfl rfl (by decide) hu (R.o_ne _) (GS.o_ne _ _);have kn:=kn0.addGr kn rfl rfl hgr hnew;have hx57:=kn.l 0 rfl;have hx67:=kn.l 1 rfl;simp only[go_sem,Q1l];refine Qa ?_;simp only[go_sem,hx57,hx67];intro x8 hx8 H8 h8;have kn:=kn.al hx8 h8;have kn:=kn.perm (L':=[(x5,_),(x6,_),(x8,_)]++Lg) (by
  simp only[List.set,Jm,Jj];refine .cons _ (.cons _ ?_);exact Jk)
 have hx88:=kn.l 2 rfl;simp only[go_sem,Q1m,hx88];intro H9 h9;have kn:=kn.stL 2 rfl h9;have hG9:=kn.e 1 rfl;refine Qa ?_;simp only[go_sem,hG9,GS.o];have hl0:=hs3.l0;have hl1:=hs3.l1;refine⟨Qm (by omega) (by omega),fun H10 h10=>?_⟩;have kn:Kn H H10 [(R.l,R.o k3),(gl,GS.o { s3 with left:=s3.left-2 } R)] ([(x5,_),(x6,_),(x8,_)]++Lg):=kn.stE 1 rfl h10;have hx5a:=kn.l 0 rfl;have hx6a:=kn.l 1 rfl;have hx8a:=kn.l 2 rfl;refine Qaf ?_;simp only[go_sem,hx5a,hx6a,hx8a];refine kn.grow hgr (.mk' _ _ _ _) (by intro r hr;simp only[Ja]at hr;subst hr;rfl) (by simp only[Qv,LIM,Jn,J2];omega) fun y' H11 kn=>?_;have hx5b:=kn.l 0 rfl;have hx6b:=kn.l 1 rfl;have hyb:=kn.l 3 rfl;simp only[go_sem,Q1n,hx5b,hx6b];refine Qi ?_;simp only[go_sem,Qq,Q7,Qpr,Ja,forall_eq,RS.op];have hok1:GS.ok { s3 with left:=s3.left-2 } k3:=⟨hs3.n0,hs3.n1,by show _≤s3.left-2;have:=hs.l0;simp only at glf;omega,by show s3.left-2≤100;omega,hs3.v,hs3.f,hs3.fn⟩;refine⟨.c (.sl false 5 (Qk [St.mk 1 name [Ex.mk 1 v [] []] [] [],St.mk 6 [] [Ex.mk 2 0 name []] (l++[St.mk 2 name [Ex.mk 4 0 [] [Ex.mk 2 0 name [],Ex.mk 1 1 [] []]] [] []]) []])),.c _ _ ?_,hK _ _ _ k3 (by omega) (by omega) kn.fin hok1 (by show _≤s3.left-2+_;simp only at glf;omega) g5 g6 (by simp) ?_ ?_⟩
 ·simp only[Qk,St.cells,Qw,Ex.cells,←Qo4]
  repeat' first|exact FrzL.nil|exact FrzR.nil|exact Qd rfl|exact FrzL.same (Ex.noOw _)|exact FrzL.same (St.noOw _)|refine FrzL.cons ?_ ?_|refine FrzR.cons ?_ ?_|refine FrzR.sl ?_
  refine FrzR.vsl (kn.un 3 rfl) hyb (by simp) (.app (.same (Qa9 _)) ?_)
  repeat' first|exact FrzL.nil|exact FrzR.nil|exact Qd rfl|exact FrzL.same (Ex.noOw _)|exact FrzL.same (St.noOw _)|refine FrzL.cons ?_ ?_|refine FrzR.cons ?_ ?_|refine FrzR.sl ?_
 ·simp only[Qcy,St.ok,Qda,Ex.ok];refine⟨⟨by simp,⟨⟨fun h=>by simp at h,trivial⟩,trivial⟩,trivial,trivial⟩,⟨by simp,⟨⟨fun h=>by simp at h,trivial⟩,trivial⟩,Qaru g8 ?_,trivial⟩,trivial⟩;simp[Qcy,St.ok,Qda,Ex.ok]
 ·simp only[Qh,St.size,Qbt,Qr,Ex.size];omega
theorem Qbs0 {A L1 L2:List (Nat×Obj)}:(A++L1++L2).Perm (A++L2++L1):=by
 rw[Js,Js];exact .append_left _ Jk
theorem Qbkl {d : Nat} (hB : ∀ d', d = d' + 1 → Qakm d') : Qbpc d := by
  intro R gl k s H K deep hd hR hG hne hs hF hk hK;have hp0 : d < 10^d := Jab (by omega);have hex : ∃ e, 10^d = e ∧ ∀ d', d = d' + 1 → 10 * 10^d' = e := ⟨10^d, rfl, fun d' h => by rw [h, Nat.pow_succ]; omega⟩;obtain ⟨e, hpe, he'⟩ := hex;rw [hpe] at hp0 hk hK;have hl0 := hs.l0;have hl1 := hs.l1;refine Qn ?_;refine Qb Qad Qa11 ?_;refine Qa ?_;simp only [go_sem];refine Qa ?_;simp only [go_sem, hG, GS.o];refine ⟨Qm (by omega) (by omega), fun H1 h1 => ?_⟩;have kn : Kn H H1 [(R.l, R.o k), (gl, GS.o { s with left := s.left - 1 } R)] [] := (Kn.start2 hR (R.o_ne k) hG (s.o_ne R) hne).stE 1 rfl h1;have hs1 : GS.ok { s with left := s.left - 1 } (k + 1) := ⟨hs.n0, by have := hs.n1; show s.next ≤ _; omega, by show _ ≤ s.left - 1; omega, by show s.left - 1 ≤ 100; omega, by have := hs.v; show s.vars.length ≤ _; omega, hs.f, hs.fn⟩;have hlr : s.left ≤ ({ s with left := s.left - 1 } : GS).left + 1 := by show s.left ≤ s.left - 1 + 1; omega
  have hfn : ({ s with left := s.left - 1 } : GS).fns = s.fns := rfl;have hff : ({ s with left := s.left - 1 } : GS).ffl = s.ffl := rfl;have hF1 : FnsOk H R gl { s with left := s.left - 1 } := ⟨hF.1, hF.2⟩;generalize ({ s with left := s.left - 1 } : GS) = s1 at *;have hG1 := kn.e 1 rfl;refine Qa ?_;simp only [go_sem, hG1, GS.o];refine Qcp (kn.e 0 rfl) (by omega) fun v H2 hv hu => ?_;have kn : Kn H H2 [(R.l, R.o (k + 1)), (gl, s1.o R)] [] := kn.callE 0 rfl hu (R.o_ne _);have hG2 := kn.e 1 rfl;simp only [go_sem, Q1q];have fin : ∀ (l : List St) (c : C) (s' : GS) (H3 : Heap) (k3 : Nat) (L : List (Nat × Obj)), k < k3 → k3 ≤ k + 500 * e → Kn H H3 [(R.l, R.o k3), (gl, s'.o R)] L → FrzC H3 (un H) c (.sl false 5 (Qk l)) →
      s'.ok k3 → s1.left + 4 * ((k + 1 : Nat) : Int) ≤ s'.left + 4 * (k3 : Int) → s'.fns = s1.fns → s'.ffl = s1.ffl → l.length ≤ 2 → Qcy l → 4 * k + Qh l ≤ 4 * k3 → ∃ x', FrzV H3 (un H) (.c c) x' ∧ K x' (H3.frz (un H)) := by
    intro l c s' H3 k3 L g1 g2 kn g3 g4 g5 g6 g7 g8 g9 g10;exact ⟨_, .c _ _ g3, hK l s' _ k3 g1 g2 kn.fin g4 (by omega) (g6.trans hfn) (g7.trans hff) g8 g9 g10⟩
  refine Qg (Qe ?_);refine Qa ?_;simp only [go_sem, hG2, GS.o, Qo];intro hvl;refine Qc rfl ?_ ?_
  ·
    intro hc;have hv0 : 0 < s1.vars.length := by
      cases h : decide (v < 3) with
      | true => rw [h] at hc; simp at hc; omega
      | false => rw [h] at hc; simp at hc
    refine Qaf ?_;simp only [go_sem, hG2, GS.o];refine of_c (kn.e 0 rfl) (by omega) hv0 fun name H3 hn hu => ?_;have kn := kn.callE 0 rfl hu (R.o_ne _);simp only [go_sem, Q1s];refine Qdd 3 (by omega) (kn.e 0 rfl) (kn.e 1 rfl) hne (hs1.mono (by omega)) (hF1.keep kn rfl rfl) (by omega) fun x H4 k4 g1 g2 hu g3 g4 => ?_;have kn := kn.callE 0 rfl hu (R.o_ne _);simp only [go_sem, Q1r, x.cells_len];refine Qi ?_;simp only [go_sem, Qq, Q7, Qpr, Ja, forall_eq, RS.op];refine fin [St.mk 2 name [x] [] []] _ s1 H4 k4 _ (by omega) (by omega) kn ?_ (hs1.mono (by omega)) (by omega) rfl rfl (by simp) ?_ ?_
    · simp only [Qk, St.cells, Qw]
      repeat' first | exact FrzL.nil | exact FrzR.nil | exact Qd rfl | exact FrzL.same (Ex.noOw _) | exact FrzL.same (St.noOw _) | refine FrzL.cons ?_ ?_ | refine FrzR.cons ?_ ?_ | refine FrzR.sl ?_
    · simp only [Qcy, St.ok, Qda]; exact ⟨⟨by simp, ⟨g3, trivial⟩, trivial, trivial⟩, trivial⟩
    · simp only [Qh, St.size, Qr]; omega
  intro hc0;refine Qa ?_;simp only [go_sem];refine Qc rfl ?_ ?_
  ·
    intro hc;refine Qa ?_;simp only [go_sem];refine Qdd 3 (by omega) (kn.e 0 rfl) (kn.e 1 rfl) hne (hs1.mono (by omega)) (hF1.keep kn rfl rfl) (by omega) fun x H4 k4 g1 g2 hu g3 g4 => ?_;have kn := kn.callE 0 rfl hu (R.o_ne _);simp only [go_sem, Q1u, x.cells_eq];refine Qali (x := x) (kn.e 0 rfl) (kn.e 1 rfl) hne (hs1.mono (by omega)) (by omega) fun name H5 k5 g5 g6 hu => ?_;have kn := kn.callEE 0 1 rfl rfl (by decide) hu (R.o_ne _) (GS.o_ne _ _);simp only [go_sem, Q1t, St.cells_len];refine Qi ?_;simp only [go_sem, Qq, Q7, Qpr, Ja, forall_eq, RS.op];have h0 := hs1.n0;have h1 := hs1.n1;have h2 := hs1.l0;have h3 := hs1.v;refine fin [St.mk 1 name [x] [] []] _ _ H5 k5 _ (by omega) (by omega) kn ?_ ⟨?_, ?_, ?_, hs1.l1, ?_, hs1.f, hs1.fn⟩ (by show _ ≤ s1.left + _; omega) rfl rfl (by simp) ?_ ?_
    · simp only [Qk]
      repeat' first | exact FrzL.nil | exact FrzR.nil | exact Qd rfl | exact FrzL.same (Ex.noOw _) | exact FrzL.same (St.noOw _) | refine FrzL.cons ?_ ?_ | refine FrzR.cons ?_ ?_ | refine FrzR.sl ?_
    · show -1 ≤ s1.next + 1; omega
    · show s1.next + 1 ≤ _; omega
    · show _ ≤ s1.left; omega
    · show (s1.vars ++ [name]).length ≤ _; simp; omega
    · simp only [Qcy, St.ok, Qda]; exact ⟨⟨by simp, ⟨g3, trivial⟩, trivial, trivial⟩, trivial⟩
    · simp only [Qh, St.size, Qr]; omega
  intro hc1;refine Qa ?_;simp only [go_sem];refine Qc rfl ?_ ?_
  ·
    intro hc;refine Qa ?_;simp only [go_sem];refine Qdd 3 (by omega) (kn.e 0 rfl) (kn.e 1 rfl) hne (hs1.mono (by omega)) (hF1.keep kn rfl rfl) (by omega) fun x H4 k4 g1 g2 hu g3 g4 => ?_;have kn := kn.callE 0 rfl hu (R.o_ne _);simp only [go_sem, Q1v, x.cells_len];refine Qi ?_;simp only [go_sem, Qq, Q7, Qpr, Ja, forall_eq, RS.op];refine fin [St.mk 3 [] [x] [] []] _ s1 H4 k4 _ (by omega) (by omega) kn ?_ (hs1.mono (by omega)) (by omega) rfl rfl (by simp) ?_ ?_
    · simp only [Qk, St.cells, Qw]
      repeat' first | exact FrzL.nil | exact FrzR.nil | exact Qd rfl | exact FrzL.same (Ex.noOw _) | exact FrzL.same (St.noOw _) | refine FrzL.cons ?_ ?_ | refine FrzR.cons ?_ ?_ | refine FrzR.sl ?_
    · simp only [Qcy, St.ok, Qda]; exact ⟨⟨by simp, ⟨g3, trivial⟩, trivial, trivial⟩, trivial⟩
    · simp only [Qh, St.size, Qr]; omega
  intro hc2;have hdp : 2 ≤ deep := by
    cases h : decide (v < 7) with
    | true => rw [h] at hc2; simp at hc2
    | false => rw [h] at hc2; simp at hc2; omega
  obtain ⟨d', hdd⟩ : ∃ d', d = d' + 1 := ⟨d - 1, by omega⟩;have hB0 : Qakm d' := hB d' hdd;have hL0 : Qbpb d' := Qbqt hB0;have hB' := hB0;have hL' := hL0;simp only [Qakm, Qbpb] at hB' hL';have he1 := he' d' hdd;have hp1 : d' < 10^d' := Jab (by omega);generalize 10^d' = e1 at *;refine Qa ?_;simp only [go_sem];refine Qc rfl ?_ ?_
  ·
    intro hc;refine Qa ?_;simp only [go_sem];refine Qaf3 (kn.e 0 rfl) (kn.e 1 rfl) hne (hs1.mono (by omega)) (hF1.keep kn rfl rfl) (by omega) fun x H4 k4 g1 g2 hu g3 g4 => ?_;have kn := kn.callE 0 rfl hu (R.o_ne _);simp only [go_sem, Q1x];refine Qdd 2 (by omega) (kn.e 0 rfl) (kn.e 1 rfl) hne (hs1.mono (by omega)) (hF1.keep kn rfl rfl) (by omega) fun y H5 k5 g5 g6 hu g7 g8 => ?_;have kn := kn.callE 0 rfl hu (R.o_ne _);simp only [go_sem, Q1w, x.cells_len, y.cells_len];refine Qi ?_;simp only [go_sem, Qq, Q7, Qpr, Ja, forall_eq, RS.op];refine fin [St.mk 4 [] [x, y] [] []] _ s1 H5 k5 _ (by omega) (by omega) kn ?_ (hs1.mono (by omega)) (by omega) rfl rfl (by simp) ?_ ?_
    · simp only [Qk, St.cells, Qw]
      repeat' first | exact FrzL.nil | exact FrzR.nil | exact Qd rfl | exact FrzL.same (Ex.noOw _) | exact FrzL.same (St.noOw _) | refine FrzL.cons ?_ ?_ | refine FrzR.cons ?_ ?_ | refine FrzR.sl ?_
    · simp only [Qcy, St.ok, Qda]; exact ⟨⟨by simp, ⟨g3, g7, trivial⟩, trivial, trivial⟩, trivial⟩
    · simp only [Qh, St.size, Qr]; omega
  intro hc3;refine Qa ?_;simp only [go_sem];refine Qc rfl ?_ ?_
  ·
    intro hc;refine Qa ?_;simp only [go_sem];refine Qaf3 (kn.e 0 rfl) (kn.e 1 rfl) hne (hs1.mono (by omega)) (hF1.keep kn rfl rfl) (by omega) fun x H4 k4 g1 g2 hu g3 g4 => ?_;have kn := kn.callE 0 rfl hu (R.o_ne _);simp only [go_sem, Q1y, x.cells_len];refine Qi ?_;simp only [go_sem, Qq, Q7, Qpr, Ja, forall_eq, RS.op];refine fin [St.mk 3 [] [Ex.mk 12 0 [] [x]] [] []] _ s1 H4 k4 _ (by omega) (by omega) kn ?_ (hs1.mono (by omega)) (by omega) rfl rfl (by simp) ?_ ?_
    · rw [Qk, Qk, St.cells, Qw, Qw, Ex.cells_eq (Ex.mk 12 0 [] _)];simp only [Qk, Qw, Ex.kids, Ex.op, Ex.n, Ex.name]
      repeat' first | exact FrzL.nil | exact FrzR.nil | exact Qd rfl | exact FrzL.same (Ex.noOw _) | exact FrzL.same (St.noOw _) | refine FrzL.cons ?_ ?_ | refine FrzR.cons ?_ ?_ | refine FrzR.sl ?_
    · simp only [Qcy, St.ok, Qda, Ex.ok]; exact ⟨⟨by simp, ⟨⟨fun h => by simp at h, g3, trivial⟩, trivial⟩, trivial, trivial⟩, trivial⟩
    · simp only [Qh, St.size, Qr, Ex.size]; omega
  intro hc4;refine Qa ?_;simp only [go_sem];refine Qc rfl ?_ ?_
  ·
    intro hc;refine Qa ?_;simp only [go_sem];refine Qdd 3 (by omega) (kn.e 0 rfl) (kn.e 1 rfl) hne (hs1.mono (by omega)) (hF1.keep kn rfl rfl) (by omega) fun x H4 k4 g1 g2 hu g3 g4 => ?_;have kn := kn.callE 0 rfl hu (R.o_ne _);simp only [go_sem, Qvn, x.cells_len];refine ⟨Qm (by omega) (by omega), ?_⟩;refine hB' _ _ _ _ _ _ (deep - 1) (by omega) (kn.e 0 rfl) (kn.e 1 rfl) hne (hs1.mono (by omega)) (hF1.keep kn rfl rfl) (by omega) fun b1 c1 L1 s2 H5 k5 g5 g6 hu hg1 hnew hs2 glf g7 g8 g9 g10 g11 => ?_;have kn0 := kn;have kn := kn.callEE 0 1 rfl rfl (by decide) hu (R.o_ne _) (GS.o_ne _ _);have kn := kn0.addGr kn rfl rfl hg1 hnew;have hc1ow := hg1.isOw;simp only [go_sem, Qvm];intro x6 hx6 H6 h6;have kn := kn.al hx6 h6;have kn := kn.perm (L' := [(x6, _)] ++ L1) Jk;have hx66 := kn.l 0 rfl;simp only [go_sem, Q1z, hx66];intro H7 h7;have kn : Kn H H7 [(R.l, R.o k5), (gl, s2.o R)] ([(x6, _)] ++ L1) := kn.stL 0 rfl h7;have hG7 := kn.e 1 rfl;refine Q5 ?_;refine Qa ?_;simp only [go_sem, hG7, GS.o];refine Qcp (kn.e 0 rfl) (by omega) fun v2 H8 hv2 hu => ?_;have kn : Kn H H8 [(R.l, R.o (k5 + 1)), (gl, s2.o R)] ([(x6, _)] ++ L1) := kn.callE 0 rfl hu (R.o_ne _);simp only [go_sem, Qvo];have rest : ∀ (E1 : Env) (hE : lk 6 E1 = V.c (C.ptr x6 0)) (c2 : C) (b2 : List St) (L2 : List (Nat × Obj)) (s3 : GS) (H9 : Heap) (k6 : Nat), k5 + 1 ≤ k6 → k6 ≤ k5 + 1 + 2001 * e1 → Gr L2 5 (Qk b2) c2 →
        Kn H H9 [(R.l, R.o k6), (gl, s3.o R)] ([(x6, .st [.int .i64 5, .str [], .sl true 4 [x.cells], c1, c2])] ++ L1 ++ L2) → s3.ok k6 → s2.left + 4 * ((k5 + 1 : Nat) : Int) ≤ s3.left + 4 * (k6 : Int) → s3.fns = s2.fns → s3.ffl = s2.ffl → Qcy b2 → 4 * (k5 + 1) + Qh b2 ≤ 4 * k6 →
        Q8 prog Q1o (X.inBlock 0 (X.sq prog Qo1 (Qq Qpr (unK H K)))) E1 H9 := by
      intro E1 hE c2 b2 L2 s3 H9 k6 e1 e2 hg2 kn e3 e4 e5 e6 e7 e8;have hx69 := kn.l 0 rfl;have hc2ow := hg2.isOw;refine Qa ?_;simp only [go_sem, hE, hx69, hc1ow, hc2ow];refine Qi ?_;simp only [go_sem, Qq, Q7, Qpr, Ja, forall_eq, RS.op];refine fin [St.mk 5 [] [x] b1 b2] _ s3 H9 k6 _ (by omega) (by omega) kn ?_ e3 (by omega) (e5.trans g7) (e6.trans g8) (by simp) ?_ ?_
      · simp only [Qk, St.cells, Qw]
        repeat' first | exact FrzL.nil | exact FrzR.nil | exact Qd rfl | exact FrzL.same (Ex.noOw _) | exact FrzL.same (St.noOw _) | refine FrzL.cons ?_ ?_ | refine FrzR.cons ?_ ?_ | refine FrzR.sl ?_
        · exact hg1.frz (kn.perm Qbs0) (Qa9 _)
        · exact hg2.frz kn (Qa9 _)
      · simp only [Qcy, St.ok, Qda]; exact ⟨⟨by simp, ⟨g3, trivial⟩, g10, e7⟩, trivial⟩
      · simp only [Qh, St.size, Qr]; omega
    refine Qg (Qc rfl ?_ ?_)
    · intro hc';refine Qp ?_;simp only [go_sem];refine ⟨Qm (by omega) (by omega), ?_⟩;refine hB' _ _ _ _ _ _ (deep - 1) (by omega) (kn.e 0 rfl) (kn.e 1 rfl) hne (hs2.mono (by omega)) (hF1.keep kn g7 g8) (by omega) fun b2 c2 L2 s3 H9 k6 q1 q2 hu hg2 hnew hs3 q3 q4 q5 q6 q7 q8 => ?_;have kn0 := kn;have kn := kn.callEE 0 1 rfl rfl (by decide) hu (R.o_ne _) (GS.o_ne _ _);have kn := kn0.addGr kn rfl rfl hg2 hnew;have hx69 := kn.l 0 rfl;simp only [go_sem, Qvp, hx69];intro H10 h10;have kn : Kn H H10 [(R.l, R.o k6), (gl, s3.o R)] ([(x6, _)] ++ L1 ++ L2) := kn.stL 0 rfl h10;exact rest _ (by simp [lk]) c2 b2 L2 s3 H10 k6 (by omega) (by omega) hg2 kn hs3 (by omega) q4 q5 q7 (by omega)
    · intro hc';refine Qf ?_;simp only [go_sem];exact rest _ (by simp [lk]) _ [] [] s2 H8 (k5 + 1) (by omega) (by omega) (.nil 5) (by rw [J9]; exact kn) (hs2.mono (by omega)) (by omega) rfl rfl trivial (by simp only [Qh]; omega)
  · intro hc5;refine Qa ?_;simp only [go_sem, hG2, GS.o];have rest : ∀ (b : Bool) (H3 : Heap) (k3 : Nat), k + 1 ≤ k3 → k3 ≤ k + 2 → Kn H H3 [(R.l, R.o k3), (gl, s1.o R)] [] →
        Q8 prog Q1p (X.inBlock 0 (X.sq prog Qo1 (Qq Qpr (unK H K))))
         [(0, V.c (C.ptr gl 0)), (1, .c (.int .i64 deep)), (109, .c (.bool b))] H3 := by
      intro b H3 k3 e3 e4 kn;refine Qc rfl ?_ ?_
      · intro hb;refine Qa ?_;simp only [go_sem];refine Qdd 2 (by omega) (kn.e 0 rfl) (kn.e 1 rfl) hne (hs1.mono (by omega)) (hF1.keep kn rfl rfl) (by omega) fun x H4 k4 g1 g2 hu g3 g4 => ?_;have kn := kn.callE 0 rfl hu (R.o_ne _);simp only [go_sem, Qvq, x.cells_len];refine Qi ?_;simp only [go_sem, Qq, Q7, Qpr, Ja, forall_eq, RS.op];refine fin [St.mk 7 [] [x] [] []] _ s1 H4 k4 _ (by omega) (by omega) kn ?_ (hs1.mono (by omega)) (by omega) rfl rfl (by simp) ?_ ?_
        · simp only [Qk, St.cells, Qw]
          repeat' first | exact FrzL.nil | exact FrzR.nil | exact Qd rfl | exact FrzL.same (Ex.noOw _) | exact FrzL.same (St.noOw _) | refine FrzL.cons ?_ ?_ | refine FrzR.cons ?_ ?_ | refine FrzR.sl ?_
        · simp only [Qcy, St.ok, Qda]; exact ⟨⟨by simp, ⟨g3, trivial⟩, trivial, trivial⟩, trivial⟩
        · simp only [Qh, St.size, Qr]; omega
      · intro hb;refine Qf ?_;simp only [go_sem];refine Qa ?_;simp only [go_sem];refine hL' _ _ _ _ _ _ deep (by omega) hdp (kn.e 0 rfl) (kn.e 1 rfl) hne (hs1.mono (by omega)) (hF1.keep kn rfl rfl) (by omega) fun l s2 H4 k4 g1 g2 hu g3 g4 g5 g6 g7 g8 g9 => ?_;have kn := kn.callEE 0 1 rfl rfl (by decide) hu (R.o_ne _) (GS.o_ne _ _);simp only [go_sem, Qvr];refine Qi ?_;simp only [go_sem, Qq, Q7, Qpr, Ja, forall_eq, RS.op];exact fin l _ s2 H4 k4 _ (by omega) (by omega) kn (Qd rfl) g3 (by omega) g5 g6 g7 g8 (by omega)
    refine ⟨fun hb => ?_, fun hb => ?_⟩
    · refine Qcp (kn.e 0 rfl) (by omega) fun v2 H3 hv2 hu => ?_;have kn := kn.callE 0 rfl hu (R.o_ne _);simp only [go_sem, Qlc];exact rest _ H3 (k + 1 + 1) (by omega) (by omega) kn
    · simp only [go_sem, Qlc, hb];exact rest _ H2 (k + 1) (by omega) (by omega) kn
theorem Qbpj (d:Nat):Qakm d:=by
 induction d with
 |zero=>exact Qbak (Qbkl (fun d' h=>absurd h (by omega)))
 |succ d ih=>exact Qbak (Qbkl (fun d' h=>by
   have:d'=d:=by omega
   rw[this];exact ih))
end Go.AE.Y
namespace Go.AE
variable {H0 H H':Heap}{E L B A:List (Nat×Obj)}{P:Program}
theorem c_gh {b:SC}{Q:X→Env→Heap→Prop}{e e':Env}(h:Qbo9 e H e' H')(hb:Q8 P b Q e' H'):Q8 P (.seq .gh b) Q e H:=⟨e',H',h,hb⟩
theorem Kn.drop (kn:Kn H0 H E (A++B)):Kn H0 H E A:=
 ⟨fun p hp=>kn.get p (by
   rcases Jf.1 hp with h|h
   ·exact Jh _ h
   ·exact Jg _ (Jh _ h)),kn.ext,fun p hp=>kn.loc p (Jh _ hp),kn.dE,by
   have:=kn.dL;rw[Jo]at this;exact (Jp.1 this).1,kn.chg⟩
theorem Kn.freeze {z gl:Nat}{o og og':Obj}(kn:Kn H0 H E (B++[(z,o)]))(i:Nat)(hB:B[i]? = some (gl,og))(hO:FrzO H (fun m=>m == z) og og')(hn:og'≠.none) :
  FrzH H (fun m=>m == z) ((H.frz fun m=>m == z).set gl og')∧Kn H0 ((H.frz fun m=>m == z).set gl og') E (B.set i (gl,og')):=by
 have hzf:H0 z=.none:=kn.loc (z,o) (by simp);have hnd:=kn.dL;rw[Jo]at hnd;have hne:∀p∈B,p.1≠z:=fun p hp hh=>(Jp.1 hnd).2.2 _ (Qb6 hp) z (by simp) hh;have hneE:∀p∈E,p.1≠z:=fun p hp hh=>kn.ext p hp (hh▸hzf);have hgl:=hne _ (Jq hB);have hH:H gl=og:=(kn.get (gl,og) (Jg _ (Jh _ (Jq hB)))).1;refine⟨(Q3y _ _).set (by simpa using hgl) (by rw[hH];exact hO),?_⟩;have kn1:Kn H0 (H.frz fun m=>m == z) E B:=by
  refine⟨fun p hp=>?_,kn.ext,fun p hp=>kn.loc p (Jh _ hp),kn.dE,(Jp.1 hnd).1,fun m hm hx=>?_⟩
  ·have:p.1≠z:=by
    rcases Jf.1 hp with h|h
    ·exact hneE p h
    ·exact hne p h
   have h2:(H.frz fun m=>m == z) p.1=H p.1:=by simp[Heap.frz,this]
   rw[h2];refine kn.get p ?_;rcases Jf.1 hp with h|h
   ·exact Jh _ h
   ·exact Jg _ (Jh _ h)
  ·have:m≠z:=fun h=>hm (h▸hzf);have h2:(H.frz fun m=>m == z) m=H m:=by simp[Heap.frz,this]
   rw[h2];exact kn.chg m hm hx
 exact kn1.setL i hB hn
theorem Kn.callEL (hk:Kn H0 H E L)(i j:Nat){l m:Nat}{o o' q q':Obj}(h:E[i]? = some (l,o))(h2:L[j]? = some (m,q))(hu:Upd H H' [(l,o'),(m,q')])(ho:o'≠.none)(hq:q'≠.none) :
  Kn H0 H' (E.set i (l,o')) (L.set j (m,q')):=by
 refine hk.callg hu (Qdj h) (Qdj h2) (fun p hp=>?_) (fun u hu=>?_)
 ·rcases Jf.1 hp with hp|hp
  ·rcases Qb8 hp with rfl|⟨b,hb,hp⟩
   ·exact⟨ho,.inl (by simp)⟩
   ·have hm:=Jh L (Jq hp);refine⟨(hk.get p hm).2,.inr ⟨hm,?_⟩⟩;simp only[Jw,Jam,J1,Jaz,or_false,not_or];exact⟨fun hh=>hb (Qfq hk.dE hp h hh),fun hh=>hk.ext p (Jq hp) (hh▸hk.free j h2)⟩
  ·rcases Qb8 hp with rfl|⟨b,hb,hp⟩
   ·exact⟨hq,.inl (by simp)⟩
   ·have hm:=Jg E (Jq hp);refine⟨(hk.get p hm).2,.inr ⟨hm,?_⟩⟩;simp only[Jw,Jam,J1,Jaz,or_false,not_or];exact⟨fun hh=>hk.usedE i h (hh▸hk.loc p (Jq hp)),fun hh=>hb (Qfq hk.dL hp h2 hh)⟩
 ·simp at hu;rcases hu with rfl|rfl
  ·exact .inl (Qb6 (p:=(l,o)) (Jq h))
  ·exact .inr (Qb6 (p:=(m,q)) (Jq h2))
end Go.AE
namespace Go.AE.Y
open Go.Proofs.Tryz
theorem Qawf {R:Rdr}{gl k:Nat}{s:GS}{name:List UInt8}{params:Int}{H:Heap}{K:V→Heap→Prop}(hp0:0≤params)(hp3:params≤3)(hR:H R.l=R.o k)(hG:H gl=s.o R)(hne:R.l≠gl)(hs:s.ok k)(hF:FnsOk H R gl s)(hk:k+2001300≤2^30)
  (hK:∀(f:Fn) (s':GS) (H':Heap) (k':Nat),k<k'→k'≤k+2001300→Upd H H' [(R.l,R.o k'),(gl,s'.o R)]→s'.ok k'→s'.fns=s.fns→s'.ffl=s.ffl→f.params.length≤3→Qcy f.body→4 * k+Qh f.body≤4 * k'→K (.ag f.cells) H') :
  Qj prog Qs8 [.c (.ptr gl 0),.c (.str name),.c (.int .i64 params)] H K:=by
 obtain⟨np,rfl⟩:=Jag hp0;refine Qn ?_;refine Qb Qad Qbcx ?_;refine Qa ?_;simp only[go_sem];intro x6 hx6 H1 h1;have kn:=(Kn.start2 hR (R.o_ne k) hG (s.o_ne R) hne).al hx6 h1;have hG1:=kn.e 1 rfl;refine Qa ?_;have etk:List.take np [[C.str [97]],[C.str [98]],[C.str [99]]]=Q9 (List.take np [[97],[98],[99]]):=by simp[Q9,Jat]
 simp only[go_sem,hG1,GS.o,etk];refine⟨⟨by omega,by omega⟩,fun H2 h2=>?_⟩;have kn:Kn H H2 [(R.l,R.o k),(gl,GS.o { s with vars:=List.take np [[97],[98],[99]],vfl:=false } R)] [(x6,_)]:=kn.stE 1 rfl h2;have hG2:=kn.e 1 rfl;refine Qa ?_;simp only[go_sem,hG2,GS.o];refine⟨Qm (by omega) (by omega),fun H3 h3=>?_⟩;have kn:Kn H H3 [(R.l,R.o k),(gl,GS.o { s with vars:=List.take np [[97],[98],[99]],vfl:=false,next:=(np:Int)-1 } R)] [(x6,_)]:=kn.stE 1 rfl h3;have hs1:GS.ok { s with vars:=List.take np [[97],[98],[99]],vfl:=false,next:=(np:Int)-1 } k:=
  ⟨by show -1≤(np:Int)-1;omega,by show (np:Int)-1≤_;omega,hs.l0,hs.l1,by show (List.take np _).length≤_;simp;omega,hs.f,hs.fn⟩
 have hvl:(List.take np [[97],[98],[99]]:List (List UInt8)).length≤3:=by simp;omega
 have hfn:GS.fns { s with vars:=List.take np [[97],[98],[99]],vfl:=false,next:=(np:Int)-1 }=s.fns:=rfl;have hff:GS.ffl { s with vars:=List.take np [[97],[98],[99]],vfl:=false,next:=(np:Int)-1 }=s.ffl:=rfl;have hvv:GS.vars { s with vars:=List.take np [[97],[98],[99]],vfl:=false,next:=(np:Int)-1 }=List.take np [[97],[98],[99]]:=rfl;rw[←hvv]at hvl;have hF1:FnsOk H R gl { s with vars:=List.take np [[97],[98],[99]],vfl:=false,next:=(np:Int)-1 }:=⟨hF.1,hF.2⟩;generalize ({ s with vars:=List.take np [[97],[98],[99]],vfl:=false,next:=(np:Int)-1 }:GS)=s1 at *;have hG3:=kn.e 1 rfl;refine Qa ?_;have hL:s1.vars.length≤LIM:=by simp only[LIM];omega
 simp only[go_sem,hG3,GS.o,Qo,Ju,Jm,hL];refine⟨.inl trivial,Qb1 _,fun y hy H4 h4=>?_⟩;have kn:=kn.al hy h4;simp only[go_sem,Qach];intro x7 hx7 H5 h5;have kn:=kn.al hx7 h5;have hx75:=kn.l 2 rfl;simp only[go_sem,Qacg,hx75];intro H6 h6;have kn:Kn H H6 [(R.l,R.o k),(gl,s1.o R)] [(x6,_),(y,_),(x7,_)]:=kn.stL 2 rfl h6;refine Qa ?_;simp only[go_sem];refine Qbpj 3 _ _ _ _ _ _ 3 (by omega) (kn.e 0 rfl) (kn.e 1 rfl) hne hs1 (hF1.keep kn rfl rfl) (by omega) fun l c Lg s2 H7 k2 g1 g2 hu hgr hnew hs2 glf g3 g4 g5 g6 g7=>?_;have kn0:=kn;have kn:=kn.callEE 0 1 rfl rfl (by decide) hu (R.o_ne _) (GS.o_ne _ _);have kn:=kn0.addGr kn rfl rfl hgr hnew;have hx77:=kn.l 2 rfl;simp only[go_sem,Qaci,hx77];intro H8 h8;have kn:Kn H H8 [(R.l,R.o k2),(gl,s2.o R)] ([(x6,.st [.str [],.sl true 1 [],.sl true 5 []]),(y,.vec 1 (Q9 s1.vars)),(x7,.st [.str name,.vsl y 1 0 s1.vars.length,c])]++Lg):=kn.stL 2 rfl h8;have hG8:=kn.e 1 rfl;refine Q5 ?_;refine Qa ?_;simp only[go_sem,hG8,GS.o];have hcow:=hgr.isOw;have rest:∀(E1:Env) (hE6:lk 6 E1=V.c (C.ptr x6 0)) (hE7:lk 7 E1=V.c (C.ptr x7 0)) (l2:List St) (c2:C) (rws:List (List C)) (L2:List (Nat×Obj)) (s3:GS) (H9:Heap) (k3:Nat),k<k3→k3≤k+2001300→
   Kn H H9 [(R.l,R.o k3),(gl,s3.o R)] ([(x6,.st [.str [],.sl true 1 [],.sl true 5 []]),(y,.vec 1 (Q9 s1.vars)),(x7,.st [.str name,.vsl y 1 0 s1.vars.length,c2])]++L2)→Gr L2 5 rws c2→(∀H',FrzR H' (un H) rws (Qk l2))→
   s3.ok k3→s3.fns=s1.fns→s3.ffl=s1.ffl→Qcy l2→4 * k+Qh l2≤4 * k3→Q8 prog Q1g (Qq Q32 (unK H K)) E1 H9:=by
  intro E1 hE6 hE7 l2 c2 rws L2 s3 H9 k3 e1 e2 kn hg2 hfr e3 e4 e5 e6 e7;have hx69:=kn.l 0 rfl;have hx79:=kn.l 2 rfl;have hcow:=hg2.isOw;refine Qa ?_;simp only[go_sem,hE6,hE7,hx69,hx79,hcow];intro H10 h10;have kn:=kn.stL 0 rfl h10;have hx6a:=kn.l 0 rfl;have hya:=kn.l 1 rfl;refine Qi ?_;simp only[go_sem,Qq,Q7,Q32,Ja,forall_eq,RS.op,hx6a,hcow];refine⟨(.ag (Fn.mk name s1.vars l2).cells),?_,hK _ s3 _ k3 e1 e2 kn.fin e3 (e4.trans hfn) (e5.trans hff) hvl e6 e7⟩;refine FrzL.ag (.cons (Qd rfl) (.cons ?_ (.cons ?_ .nil)))
  ·exact Qaxz (kn.un 1 rfl) hya (by simp[Q9]) (Qabi (Qb1 _))
  ·exact hg2.frzR (B:=[_,_,_]) kn (hfr _)
 have tl:∀(b:Bool) (H9:Heap) (k3:Nat),k2≤k3→k3≤k2+1→(b=true→0<s2.left)→Kn H H9 [(R.l,R.o k3),(gl,s2.o R)] ([(x6,.st [.str [],.sl true 1 [],.sl true 5 []]),(y,.vec 1 (Q9 s1.vars)),(x7,.st [.str name,.vsl y 1 0 s1.vars.length,c])]++Lg)→
   Q8 prog (s_l3Gen_fn_7.seq Q1g) (Qq Q32 (unK H K)) [(0,V.c (C.ptr gl 0)),(6,V.c (C.ptr x6 0)),(7,V.c (C.ptr x7 0)),(42,.c (.bool b))] H9:=by
  intro b H9 k3 e1 e2 hb kn;have hG9:=kn.e 1 rfl;refine Qg (Qc rfl ?_ ?_)
  ·intro hc;have hlp:=hb hc;have hl1:=hs2.l1;refine Qa ?_;simp only[go_sem,hG9,GS.o];refine⟨Qm (by omega) (by omega),fun H10 h10=>?_⟩;have kn:Kn H H10 [(R.l,R.o k3),(gl,GS.o { s2 with left:=s2.left-1 } R)] ([(x6,_),(y,_),(x7,_)]++Lg):=kn.stE 1 rfl h10;have hs3:GS.ok { s2 with left:=s2.left-1 } k3:=⟨hs2.n0,by have:=hs2.n1;show s2.next≤_;omega,by show _≤s2.left-1;omega,by show s2.left-1≤100;omega,by have:=hs2.v;show s2.vars.length≤_;omega,hs2.f,hs2.fn⟩;have hx7a:=kn.l 2 rfl;refine Qe8 ?_;simp only[go_sem,hx7a,hcow];refine Qdd 2 (by omega) (kn.e 0 rfl) (kn.e 1 rfl) hne hs3 (hF1.keep kn g3 g4) (by omega) fun x H11 k4 q1 q2 hu q3 q4=>?_;have kn:=kn.callE 0 rfl hu (R.o_ne _);have hx7b:=kn.l 2 rfl;simp only[go_sem,Qack,hx7b,hcow,x.cells_len];refine kn.grow (B:=[_,_,_]) hgr (.mk' _ _ _ _) (by intro r hr;simp only[Ja]at hr;subst hr;rfl) (by simp only[Qv,LIM,Jn,J2];omega) fun y' H12 kn=>?_;have hx7c:=kn.l 2 rfl;simp only[go_sem,Qacj,hx7c];intro H13 h13;have kn:=kn.stL 2 rfl h13;refine rest _ (by simp[lk]) (by simp[lk]) (l++[St.mk 7 [] [x] [] []]) _ _ _ _ H13 k4 (by omega) (by omega) kn (.mk _ _ _ (by simp[Qv])) (fun H'=>?_) (hs3.mono (by omega)) g3 g4 (Qaru g6 ?_) ?_
   ·rw[←Qo4];refine .app (.same (Qa9 _)) ?_;simp only[Qk,St.cells,Qw]
    repeat' first|exact FrzL.nil|exact FrzR.nil|exact Qd rfl|exact FrzL.same (Ex.noOw _)|exact FrzL.same (St.noOw _)|refine FrzL.cons ?_ ?_|refine FrzR.cons ?_ ?_|refine FrzR.sl ?_
   ·simp only[Qcy,St.ok,Qda];exact⟨⟨by simp,⟨q3,trivial⟩,trivial,trivial⟩,trivial⟩
   ·simp only[Qbt,Qh,St.size,Qr];omega
  ·intro hc;refine Qf ?_;simp only[go_sem];exact rest _ (by simp[lk]) (by simp[lk]) l c _ Lg s2 H9 k3 (by omega) (by omega) kn hgr (fun H'=>.same (Qa9 _)) (hs2.mono (by omega)) g3 g4 g6 (by omega)
 refine⟨fun hb=>?_,fun hb=>?_⟩
 ·refine Qcp (kn.e 0 rfl) (by omega) fun v H9 hv hu=>?_;have kn:=kn.callE 0 rfl hu (R.o_ne _);simp only[go_sem,Quj,hb];exact tl _ H9 (k2+1) (by omega) (by omega) (fun _=>by simpa using hb) kn
 ·simp only[go_sem,Quj,hb];exact tl false H8 k2 (by omega) (by omega) (fun h=>by simp at h) kn
variable {H:Heap}{K:V→Heap→Prop}
theorem Qd2 {n lo hi:Int}(hK:K (.c (.bool (decide (lo≤n∧n≤hi)))) H):Qj prog Qcv [.c (.int .i64 n),.c (.int .i64 lo),.c (.int .i64 hi)] H K:=by
 refine Qb Qad Qbsw ?_;refine Qa ?_;simp only[go_sem];refine Qa ?_;simp only[go_sem];refine Qi ?_;simp only[go_sem,Qq,Q7,Qbo3,Ja,forall_eq,RS.op];have:(bif decide (lo≤n)then decide (n≤hi)else false)=decide (lo≤n∧n≤hi):=by
  by_cases h:lo≤n <;> simp[h]
 rw[this];exact hK
theorem Qbhs {b:Bool}(hK:K (.c (.int .i64 (if b then 1 else 0))) H):Qj prog Qadb [.c (.bool b)] H K:=by
 refine Qb Qad Qbh9 ?_;refine Qa ?_;simp only[go_sem];refine Q5 ?_;refine Qa ?_;simp only[go_sem];refine Qg (Qc rfl ?_ ?_)
 ·intro hc;subst hc;refine Qa ?_;simp only[go_sem];refine Qi ?_;simp only[go_sem,Qq,Q7,Qfh,Ja,forall_eq,RS.op];exact hK
 ·intro hc;subst hc;refine Qf ?_;simp only[go_sem];refine Qa ?_;simp only[go_sem];refine Qi ?_;simp only[go_sem,Qq,Q7,Qfh,Ja,forall_eq,RS.op];exact hK
theorem Qa1h {s:List UInt8}{b:UInt8}(hK:∀n:Int,K (.c (.int .i64 n)) H):Qj prog Qac9 [.c (.str s),.c (.int .u8 b.toNat)] H K:=by
 refine Qb Qad Qbh5 ?_;refine Qa ?_;simp only[go_sem];refine Q5 ?_;refine Qa ?_;simp only[go_sem];refine Qg (Qe (Q2 (fun n e1 H1=>∃i:Nat,n=s.length-i∧i≤s.length∧H1=H∧e1=[(0,.c (.str s)),(1,.c (.int .u8 b.toNat)),(5,.c (.int .i64 i))]) s.length ?_ ?_))
 ·exact⟨0,by omega,by omega,rfl,rfl⟩
 ·rintro n e1 H1 ⟨i,hn,hi,rfl,rfl⟩;refine Q5 ?_;refine Qa ?_;simp only[go_sem];intro hl;simp only[LIM]at hl;refine Qg (Qc rfl ?_ ?_)
  ·intro hc;have hlt:i<s.length:=by simpa using hc
   refine Qf ?_;simp only[go_sem];refine Qg (Qe ?_);refine Qa ?_;simp only[go_sem,hlt];refine Qc rfl ?_ ?_
   ·intro hc2;refine Qa ?_;simp only[go_sem];refine Qi ?_;simp only[go_sem,X.next,Qq,Q7,Qpr,Ja,forall_eq,RS.op];exact hK _
   ·intro hc2;refine Qf ?_;simp only[go_sem];refine Qp ?_;simp only[go_sem,X.next];exact⟨Qm (by omega) (by omega),s.length-(i+1),by omega,i+1,rfl,by omega,rfl⟩
  ·intro hc;refine Q1 ?_;simp only[go_sem,X.next];refine Qa ?_;simp only[go_sem];refine Qi ?_;simp only[go_sem,Qq,Q7,Qpr,Ja,forall_eq,RS.op];exact hK _
theorem Qbhk {b:UInt8}(hK:∀n:Int,K (.c (.int .i64 n)) H):Qj prog Q3s [.c (.int .u8 b.toNat)] H K:=by
 refine Qb Qad Qa1v ?_;refine Qa ?_;simp only[go_sem];refine Qg (Qe ?_);refine Qa ?_;simp only[go_sem];refine Qc rfl ?_ ?_
 ·intro hc;refine Qa ?_;simp only[go_sem];refine Qi ?_;simp only[go_sem,Qq,Q7,Qfh,Ja,forall_eq,RS.op];exact hK _
 intro hc;refine Qa ?_;simp only[go_sem];refine Qc rfl ?_ ?_
 ·intro hc;refine Qa ?_;simp only[go_sem];refine Qi ?_;simp only[go_sem,Qq,Q7,Qfh,Ja,forall_eq,RS.op];exact hK _
 intro hc;refine Qa ?_;simp only[go_sem];refine Qa1h fun n=>?_;simp only[go_sem,Q02];refine Qc rfl ?_ ?_
 ·intro hc;refine Qa ?_;simp only[go_sem];refine Qi ?_;simp only[go_sem,Qq,Q7,Qfh,Ja,forall_eq,RS.op];exact hK _
 intro hc;refine Qa ?_;simp only[go_sem];refine Qc rfl ?_ ?_
 ·intro hc;refine Qa ?_;simp only[go_sem];refine Qi ?_;simp only[go_sem,Qq,Q7,Qfh,Ja,forall_eq,RS.op];exact hK _
 intro hc;refine Qf ?_;simp only[go_sem];refine Qa ?_;simp only[go_sem];refine Qi ?_;simp only[go_sem,Qq,Q7,Qfh,Ja,forall_eq,RS.op];exact hK _
theorem Qbqm {s:List UInt8}{k:Int}(hK:∀b:Bool,K (.c (.bool b)) H):Qj prog Qakc [.c (.str s),.c (.int .i64 k)] H K:=by
 refine Qb Qad Qbh2 ?_;refine Qa ?_;simp only[go_sem];refine Q5 ?_;refine Qa ?_;simp only[go_sem];refine Qg (Qe (Q2 (fun n e1 H1=>∃i:Nat,n=s.length-i∧i≤s.length∧H1=H∧e1=[(0,.c (.str s)),(1,.c (.int .i64 k)),(5,.c (.int .i64 i))]) s.length ?_ ?_))
 ·exact⟨0,by omega,by omega,rfl,rfl⟩
 ·rintro n e1 H1 ⟨i,hn,hi,rfl,rfl⟩;refine Q5 ?_;refine Qa ?_;simp only[go_sem];intro hl;simp only[LIM]at hl;refine Qg (Qc rfl ?_ ?_)
  ·intro hc;have hlt:i<s.length:=by simpa using hc
   refine Qf ?_;simp only[go_sem];refine Qg (Qe ?_);refine Qa ?_;simp only[go_sem,hlt];refine Qbhk fun cl=>?_;simp only[go_sem,Qaet];refine Qc rfl ?_ ?_
   ·intro hc2;refine Qa ?_;simp only[go_sem];refine Qi ?_;simp only[go_sem,X.next,Qq,Q7,Qpr,Ja,forall_eq,RS.op];exact hK _
   ·intro hc2;refine Qf ?_;simp only[go_sem];refine Qp ?_;simp only[go_sem,X.next];exact⟨Qm (by omega) (by omega),s.length-(i+1),by omega,i+1,rfl,by omega,rfl⟩
  ·intro hc;refine Q1 ?_;simp only[go_sem,X.next];refine Qa ?_;simp only[go_sem];intro _;refine Qi ?_;simp only[go_sem,Qq,Q7,Qpr,Ja,forall_eq,RS.op];exact hK _
theorem Qbb1 (hK:∀ss:List (List UInt8),K (.c (.sl true 1 (Q9 ss))) H):Qj prog Qjo [] H K:=by
 refine Qb Qad Qabh ?_;refine Qa ?_;simp only[go_sem];refine Qa ?_;simp only[go_sem];refine Qi ?_;simp only[go_sem,Qq,Q7,Qtq,Ja,forall_eq,RS.op];exact hK [[102,110],[108,101,116],[115,97,121],[112,117,116],[105,102],[101,108,115,101],[108,111,111,112],[98,97,99,107],[100,111]]
theorem Qbqn {s:List UInt8}(hK:∀b:Bool,K (.c (.bool b)) H):Qj prog Qakd [.c (.str s)] H K:=by
 refine Qb Qad Qbh3 ?_;refine Qa ?_;simp only[go_sem];refine Qa ?_;simp only[go_sem];refine Qbb1 fun ss=>?_;simp only[go_sem,Qaeu];refine Q5 ?_;refine Qa ?_;simp only[go_sem];refine Qg (Qe (Q2 (fun n e1 H1=>∃i:Nat,n=ss.length-i∧i≤ss.length∧H1=H∧e1=[(0,.c (.str s)),(3,.c (.sl true 1 (Q9 ss))),(4,.c (.int .i64 i))]) ss.length ?_ ?_))
 ·exact⟨0,by omega,by omega,rfl,rfl⟩
 ·rintro n e1 H1 ⟨i,hn,hi,rfl,rfl⟩;refine Q5 ?_;refine Qa ?_;simp only[go_sem,Qo];intro hl;simp only[LIM]at hl;refine Qg (Qc rfl ?_ ?_)
  ·intro hc;have hlt:i<ss.length:=by simpa using hc
   refine Qf ?_;simp only[go_sem];refine Qg (Qe ?_);refine Qa ?_;simp only[go_sem,hlt,Qo,Qbs _ _ hlt];refine Qc rfl ?_ ?_
   ·intro hc2;refine Qa ?_;simp only[go_sem];refine Qi ?_;simp only[go_sem,X.next,Qq,Q7,Qfh,Ja,forall_eq,RS.op];exact hK _
   ·intro hc2;refine Qf ?_;simp only[go_sem];refine Qp ?_;simp only[go_sem,X.next];exact⟨Qm (by omega) (by omega),ss.length-(i+1),by omega,i+1,rfl,by omega,rfl⟩
  ·intro hc;refine Q1 ?_;simp only[go_sem,X.next];refine Qa ?_;simp only[go_sem];refine Qi ?_;simp only[go_sem,Qq,Q7,Qfh,Ja,forall_eq,RS.op];exact hK _
theorem Qaka {s:List UInt8}(hK:∀b:Bool,K (.c (.bool b)) H):Qj prog Qeg [.c (.str s)] H K:=by
 refine Qb Qad Qals ?_;refine Qa ?_;simp only[go_sem];refine Qa ?_;simp only[go_sem];refine Qbqm fun b=>?_;simp only[go_sem,Qqr];intro hl;refine⟨fun hb=>?_,fun hb=>?_⟩
 ·refine Qbqn fun b2=>?_;simp only[go_sem,Qfp];refine Qi ?_;simp only[go_sem,Qq,Q7,Qfh,Ja,forall_eq,RS.op];exact hK _
 ·simp only[go_sem,Qfp,hb];refine Qi ?_;simp only[go_sem,Qq,Q7,Qfh,Ja,forall_eq,RS.op];exact hK _
theorem Qbml {op:Int}(hK:∀a b:Int,K (.tup [.c (.int .i64 a),.c (.int .i64 b)]) H):Qj prog Qaax [.c (.int .i64 op)] H K:=by
 refine Qb Qad Qba8 ?_;refine Qa ?_;simp only[go_sem];refine Q5 ?_;refine Qa ?_;simp only[go_sem];have ret:∀(a b:Int) (e:Env),lk 2 e=.c (.int .i64 a)→lk 3 e=.c (.int .i64 b)→Qq Qnf K .ret e H:=by
  intro a b e h1 h2;simp only[go_sem,Qq,Q7,Qnf,Jan,RS.op,h1,h2];exact hK _ _
 refine Qg (Qe ?_);refine Q5 ?_;refine Qa ?_;simp only[go_sem];have r5:∀(b:Bool),Q8 prog Qaew (X.inBlock 0 (X.sq prog Qsa (Qq Qnf K))) [(4,.c (.int .i64 op)),(5,.c (.bool b))] H:=by
  intro b;refine Qc rfl ?_ ?_
  ·intro hc;refine Qa ?_;simp only[go_sem];refine Qi ?_;simp only[go_sem];exact ret 0 0 _ (by simp[lk]) (by simp[lk])
  intro hc;refine Q5 ?_;refine Qa ?_;simp only[go_sem];have r8:∀(b:Bool),Q8 prog Qaev (X.inBlock 0 (X.sq prog Qsa (Qq Qnf K))) [(4,.c (.int .i64 op)),(8,.c (.bool b))] H:=by
   intro b;refine Qc rfl ?_ ?_
   ·intro hc;refine Qa ?_;simp only[go_sem];refine Qi ?_;simp only[go_sem];exact ret 1 1 _ (by simp[lk]) (by simp[lk])
   intro hc;refine Qa ?_;simp only[go_sem];refine Qc rfl ?_ ?_
   ·intro hc;refine Qa ?_;simp only[go_sem];refine Qi ?_;simp only[go_sem];exact ret 0 3 _ (by simp[lk]) (by simp[lk])
   ·intro hc;refine Qf ?_;simp only[go_sem];refine Qa ?_;simp only[go_sem];refine Qi ?_;exact ret 2 2 _ (by simp[lk]) (by simp[lk])
  refine Qg (Qc rfl ?_ ?_)
  ·intro hc;refine Qf ?_;simp only[go_sem];exact r8 _
  ·intro hc;refine Qp ?_;simp only[go_sem];exact r8 _
 refine Qg (Qc rfl ?_ ?_)
 ·intro hc;refine Qf ?_;simp only[go_sem];exact r5 _
 ·intro hc;refine Qp ?_;simp only[go_sem];exact r5 _
theorem Qbaz {op:Int}(hK:K (.c (.int .i64 (if op=4 then 2 else 1))) H):Qj prog Qak6 [.c (.int .i64 op)] H K:=by
 refine Qb Qad Qbmu ?_;refine Qa ?_;simp only[go_sem];refine Q5 ?_;refine Qa ?_;simp only[go_sem];refine Qg (Qc rfl ?_ ?_)
 ·intro hc;refine Qa ?_;simp only[go_sem];refine Qi ?_;simp only[go_sem,Qq,Q7,Qfh,Ja,forall_eq,RS.op];rw[if_pos (by simpa using hc)]at hK;exact hK
 ·intro hc;refine Qf ?_;simp only[go_sem];refine Qa ?_;simp only[go_sem];refine Qi ?_;simp only[go_sem,Qq,Q7,Qfh,Ja,forall_eq,RS.op];rw[if_neg (by simpa using hc)]at hK;exact hK
theorem Qjw {l:List Ex}{i:Nat}(h:i<l.length):Qr (l.take (i+1))=Qr (l.take i)+(l[i]'h).size:=by
 rw[Ji h,Qnv];simp[Qr]
theorem Qgz {l:List St}{i:Nat}(h:i<l.length):Qh (l.take (i+1))=Qh (l.take i)+(l[i]'h).size:=by
 rw[Ji h,Qbt];simp[Qh]
theorem Qc1 (l:List Ex)(i:Nat):Qr (l.take i)≤Qr l:=by
 conv=>rhs;rw[←Jx i l,Qnv]
 omega
theorem Qbm (l:List St)(i:Nat):Qh (l.take i)≤Qh l:=by
 conv=>rhs;rw[←Jx i l,Qbt]
 omega
theorem Qa54 (l:List Ex):l.length≤Qr l:=by
 induction l with
 |nil=>simp
 |cons x r ih=>simp only[Jn,Qr];have:=x.size_pos;omega
theorem St.size_pos (x:St):1≤x.size:=by rw[x.size_eq];omega
theorem Qcd (l:List St):l.length≤Qh l:=by
 induction l with
 |nil=>simp
 |cons x r ih=>simp only[Jn,Qh];have:=x.size_pos;omega
theorem Qa1g:∀(n:Nat) (x:Ex) {H:Heap} {K:V→Heap→Prop},x.size≤n→x.size≤2^40→K (.c (.int .i64 x.size)) H→Qj prog Q3u [.ag x.cells] H K:=by
 intro n
 induction n with
 |zero=>intro x _ _ h;have:=x.size_pos;omega
 |succ n ih=>
 intro x H K hn hb hK;have hsz:=x.size_kids;refine Qb Qad Qbh4 ?_;refine Qa ?_;simp only[go_sem,x.cells_eq];refine Qa ?_;simp only[go_sem];refine Q5 ?_;refine Qa ?_;simp only[go_sem];refine Qg (Qe (Q2 (fun n e1 H1=>∃i:Nat,n=x.kids.length-i∧i≤x.kids.length∧H1=H∧e1=[(1,.c (.pp [.int .i64 x.op,.int .i64 x.n,.str x.name,.sl false 4 (Qw x.kids)])),(3,.c (.int .i64 ((1+Qr (x.kids.take i):Nat):Int))),(4,.c (.int .i64 i))]) x.kids.length ?_ ?_))
 ·exact⟨0,by omega,by omega,rfl,by simp[Qr]⟩
 ·rintro n e1 H1 ⟨i,hn,hi,rfl,rfl⟩;refine Q5 ?_;refine Qa ?_;simp only[go_sem,Ql];intro hl;simp only[LIM]at hl;refine Qg (Qc rfl ?_ ?_)
  ·intro hc;have hlt:i<x.kids.length:=by simpa using hc
   have hm:=Qar (Je hlt);have htk:=Qjw hlt;have htl:=Qc1 x.kids (i+1);refine Qf ?_;simp only[go_sem];refine Qg (Qe (Qp ?_));simp only[go_sem,hlt,Ql,Qaq _ _ hlt,Ex.take4,Ex.allOw,Ex.cells_len];refine ih _ (by omega) (by omega) ?_;simp only[go_sem,Qagl];refine⟨Qm (by omega) (by omega),?_⟩;refine Qp ?_;simp only[go_sem,X.next];refine⟨Qm (by omega) (by omega),x.kids.length-(i+1),by omega,i+1,rfl,by omega,?_⟩;rw[htk];simp;omega
  ·intro hc;have hge:x.kids.length≤i:=by simpa using hc
   refine Q1 ?_;simp only[go_sem,X.next];refine Qa ?_;simp only[go_sem];refine Qi ?_;simp only[go_sem,Qq,Q7,Qfh,Ja,forall_eq,RS.op];rw[Jd hge,←hsz];exact hK
theorem Qbmk:∀(n:Nat) (x:Ex) {H:Heap} {K:V→Heap→Prop} (deep:Int),x.size≤n→deep≤100→(∀b:Bool,K (.c (.bool b)) H)→Qj prog Qyb [.ag x.cells,.c (.int .i64 deep)] H K:=by
 intro n
 induction n with
 |zero=>intro x _ _ _ h;have:=x.size_pos;omega
 |succ n ih=>
 intro x H K deep hn hd hK;have hsz:=x.size_kids;refine Qb Qad Qba7 ?_;refine Qa ?_;simp only[go_sem,x.cells_eq];refine Qa ?_;simp only[go_sem];refine Qbml fun lo hi=>?_;simp only[go_sem,Q9n,Jaq,Jap];refine Q5 ?_;refine Qa ?_;simp only[go_sem];have retf:∀(b:Bool) (e:Env),lk 4 e=.c (.bool b)→Qq Qpr K .ret e H:=by
  intro b e h1;simp only[go_sem,Qq,Q7,Qpr,Ja,forall_eq,RS.op,h1];exact hK _
 have rest:∀b:Bool,(b=false→1≤deep)→Q8 prog (s_l2Form_3.seq Q9m) (Qq Qpr K)
   [(1,.c (.int .i64 deep)),(2,.c (.pp [.int .i64 x.op,.int .i64 x.n,.str x.name,.sl false 4 (Qw x.kids)])),(31,.c (.bool b))] H:=by
  intro b hb;refine Qg (Qc rfl ?_ ?_)
  ·intro hc;refine Qa ?_;simp only[go_sem];refine Qi ?_;simp only[go_sem];exact retf false _ (by simp[lk])
  intro hc;have hdp:=hb hc;refine Qf ?_;simp only[go_sem];refine Qa ?_;simp only[go_sem];refine Q5 ?_;refine Qa ?_;simp only[go_sem];refine Qaka fun b1=>?_;simp only[go_sem,Q9o];have rest2:∀b:Bool,Q8 prog (s_l2Form_6.seq Q9l) (Qq Qpr K)
    [(1,.c (.int .i64 deep)),(2,.c (.pp [.int .i64 x.op,.int .i64 x.n,.str x.name,.sl false 4 (Qw x.kids)])),(69,.c (.bool b))] H:=by
   intro b;refine Qg (Qc rfl ?_ ?_)
   ·intro hc;refine Qa ?_;simp only[go_sem];refine Qi ?_;simp only[go_sem];exact retf false _ (by simp[lk])
   intro hc;refine Qf ?_;simp only[go_sem];refine Q5 ?_;refine Qa ?_;simp only[go_sem];refine Qg (Qe (Q2 (fun n e1 H1=>∃i:Nat,n=x.kids.length-i∧i≤x.kids.length∧H1=H∧e1=[(1,.c (.int .i64 deep)),(2,.c (.pp [.int .i64 x.op,.int .i64 x.n,.str x.name,.sl false 4 (Qw x.kids)])),(8,.c (.int .i64 i))]) x.kids.length ?_ ?_))
   ·exact⟨0,by omega,by omega,rfl,rfl⟩
   ·rintro n e1 H1 ⟨i,hn,hi,rfl,rfl⟩;refine Q5 ?_;refine Qa ?_;simp only[go_sem,Ql];intro hl;simp only[LIM]at hl;refine Qg (Qc rfl ?_ ?_)
    ·intro hc;have hlt:i<x.kids.length:=(by simpa using hc);have hm:=Qar (Je hlt);refine Qf ?_;simp only[go_sem];refine Qg (Qe ?_);refine Qa ?_;simp only[go_sem,hlt,Ql,Qaq _ _ hlt,Ex.take4,Ex.allOw,Ex.cells_len];refine⟨Qm (by omega) (by omega),?_⟩;refine ih _ (deep-1) (by omega) (by omega) fun b2=>?_;simp only[go_sem,Q9p];refine Qc rfl ?_ ?_
     ·intro hc2;refine Qa ?_;simp only[go_sem];refine Qi ?_;simp only[go_sem,X.next];exact retf false _ (by simp[lk])
     ·intro hc2;refine Qf ?_;simp only[go_sem];refine Qp ?_;simp only[go_sem,X.next];exact⟨Qm (by omega) (by omega),x.kids.length-(i+1),by omega,i+1,rfl,by omega,rfl⟩
    ·intro hc;refine Q1 ?_;simp only[go_sem,X.next];refine Qa ?_;simp only[go_sem];refine Qi ?_;exact retf true _ (by simp[lk])
  refine⟨fun hb1=>?_,fun hb1=>?_⟩
  ·refine Qd2 ?_;simp only[go_sem,Qoy];exact rest2 _
  ·replace hb1:=Qeh hb1;simp only[go_sem,Qoy,hb1];exact rest2 _
 refine⟨fun hb1=>?_,fun hb1=>?_⟩
 ·replace hb1:=Qk9 hb1;have hdp:1≤deep:=by simp at hb1;omega
  refine Qd2 ?_;simp only[go_sem,Qox,hb1,Ql,cond_false];intro hl;refine⟨fun hb2=>?_,fun hb2=>?_⟩
  ·refine Qd2 ?_;simp only[go_sem,Qfz];exact rest _ (fun _=>hdp)
  ·replace hb2:=Qeh hb2;simp only[go_sem,Qfz,hb2];exact rest _ (fun _=>hdp)
 ·replace hb1:=Qeh hb1;simp only[go_sem,Qox,Qfz,hb1,Ql,cond_true];exact rest _ (fun h=>by simp at h)
theorem Qa5r {x:Ex}(hx:x.size≤2^40)(hK:∀b:Bool,K (.c (.bool b)) H):Qj prog Qhd [.ag x.cells] H K:=by
 refine Qb Qad Q6t ?_;refine Qa ?_;simp only[go_sem,Ex.ne_nil];refine Qa ?_;simp only[go_sem,Ex.take4,Ex.allOw,Ex.cells_len];refine Qbmk x.size x 6 (Jl _) (by omega) fun b=>?_;simp only[go_sem,Qjd,Ex.take4,Ex.allOw,Ex.cells_len];refine⟨fun hb=>?_,fun hb=>?_⟩
 ·refine Qa1g x.size x (Jl _) hx ?_;simp only[go_sem,Qc8];refine Qi ?_;simp only[go_sem,Qq,Q7,Qfh,Ja,forall_eq,RS.op];exact hK _
 ·simp only[go_sem,Qc8,hb];refine Qi ?_;simp only[go_sem,Qq,Q7,Qfh,Ja,forall_eq,RS.op];exact hK _
def St.raw (x:St):List C:=[.int .i64 x.op,.str x.name,.sl false 4 (Qw x.args),.sl false 5 (Qk x.body),.sl false 5 (Qk x.els)]
theorem Qbhq:∀(n:Nat) (l:List St) {fl:Bool} {H:Heap} {K:V→Heap→Prop},Qh l≤n→Qh l≤2^40→(∀v:Nat,v≤Qh l→K (.c (.int .i64 v)) H)→Qj prog Qnn [.c (.sl fl 5 (Qk l))] H K:=by
 intro n
 induction n using Nat.strongRecOn with
 |ind n ih=>
 intro l fl H K hn hb hK;have hlen:=Qcd l;refine Qb Qad Qa1x ?_;refine Qa ?_;simp only[go_sem];refine Qa ?_;simp only[go_sem,Qv];intro hl;refine Q5 ?_;refine Qa ?_;simp only[go_sem];refine Qg (Qe (Q2 (fun n e1 H1=>∃(i v:Nat),n=l.length-i∧i≤l.length∧v≤(l.length-i)+Qh (l.take i)∧H1=H∧e1=[(0,.c (.sl fl 5 (Qk l))),(3,.c (.int .i64 v)),(4,.c (.int .i64 i))]) l.length ?_ ?_))
 ·exact⟨0,l.length,by omega,by omega,by omega,rfl,rfl⟩
 ·rintro n e1 H1 ⟨i,v,hn1,hi,hv,rfl,rfl⟩;refine Q5 ?_;refine Qa ?_;simp only[go_sem,Qv];simp only[LIM]at hl;refine fun _=>?_;refine Qg (Qc rfl ?_ ?_)
  ·intro hc;have hlt:i<l.length:=by simpa using hc
   have hm:=Qbl (Je hlt);have htk:=Qgz hlt;have htl:=Qbm l (i+1);have hse:=(l[i]'hlt).size_eq;refine Qf ?_;simp only[go_sem];refine Qg (Qe (Qe8 ?_));simp only[go_sem,hlt,Qv,Qbg _ _ hlt,St.cells_eq];refine ih (Qh l[i].body) (by omega) l[i].body (Jl _) (by omega) fun a ha=>?_;simp only[go_sem,Q04,hlt,Qv,Qbg _ _ hlt,St.cells_eq];refine⟨Qm (by omega) (by omega),?_⟩;refine ih (Qh l[i].els) (by omega) l[i].els (Jl _) (by omega) fun c hc=>?_;simp only[go_sem,Q03];refine⟨Qm (by omega) (by omega),?_⟩;refine Qp ?_;simp only[go_sem,X.next];refine⟨Qm (by omega) (by omega),l.length-(i+1),by omega,i+1,v+a+c,rfl,by omega,by omega,rfl⟩
  ·intro hc;have hge:l.length≤i:=by simpa using hc
   refine Q1 ?_;simp only[go_sem,X.next];refine Qa ?_;simp only[go_sem];refine Qi ?_;simp only[go_sem,Qq,Q7,Qfh,Ja,forall_eq,RS.op];rw[Jd hge]at hv;exact hK v (by omega)
def Qbr2 (n:Nat):Prop:=∀(x:St) (deep:Int) (H:Heap) (K:V→Heap→Prop),x.size≤n→x.size≤2^40→deep≤100→(∀b:Bool,K (.c (.bool b)) H)→Qj prog Qaaz [.ag x.cells,.c (.int .i64 deep)] H K
def Qbgf (n:Nat):Prop:=∀(l:List St) (deep:Int) (fl:Bool) (H:Heap) (K:V→Heap→Prop),Qh l≤n→Qh l≤2^40→deep≤100→(∀b:Bool,K (.c (.bool b)) H)→Qj prog Qno [.c (.sl fl 5 (Qk l)),.c (.int .i64 deep)] H K
theorem Qboj {n:Nat}(hS:Qbr2 n):Qbgf n:=by
 intro l deep fl H K hn hb hd hK;refine Qb Qad Qa12 ?_;have retf:∀(b:Bool) (e:Env),lk 4 e=.c (.bool b)→Qq Qpr K .ret e H:=by
  intro b e h1;simp only[go_sem,Qq,Q7,Qpr,Ja,forall_eq,RS.op,h1];exact hK _
 refine Qa ?_;simp only[go_sem];refine Q5 ?_;refine Qa ?_;simp only[go_sem];refine Qg (Qe (Q2 (fun n e1 H1=>∃(i:Nat),n=l.length-i∧i≤l.length∧H1=H∧e1=[(0,.c (.sl fl 5 (Qk l))),(1,.c (.int .i64 deep)),(5,.c (.int .i64 i))]) l.length ?_ ?_))
 ·exact⟨0,by omega,by omega,rfl,rfl⟩
 ·rintro n e1 H1 ⟨i,hn1,hi,rfl,rfl⟩;refine Q5 ?_;refine Qa ?_;simp only[go_sem,Qv];intro hl;simp only[LIM]at hl;refine Qg (Qc rfl ?_ ?_)
  ·intro hc;have hlt:i<l.length:=by simpa using hc
   have hm:=Qbl (Je hlt);refine Qf ?_;simp only[go_sem];refine Qg (Qe ?_);refine Qa ?_;simp only[go_sem,hlt,Qv,Qbg _ _ hlt,St.take5,St.allOw,St.cells_len];refine hS _ deep _ _ (by omega) (by omega) hd fun b=>?_;simp only[go_sem,Q11];refine Qc rfl ?_ ?_
   ·intro hc2;refine Qa ?_;simp only[go_sem];refine Qi ?_;simp only[go_sem,X.next];exact retf false _ (by simp[lk])
   ·intro hc2;refine Qf ?_;simp only[go_sem];refine Qp ?_;simp only[go_sem,X.next];exact⟨Qm (by omega) (by omega),l.length-(i+1),by omega,i+1,rfl,by omega,rfl⟩
  ·intro hc;refine Q1 ?_;simp only[go_sem,X.next];refine Qa ?_;simp only[go_sem];refine Qi ?_;exact retf true _ (by simp[lk])
theorem Qbrk {n:Nat}(hS:∀m,m<n→Qbgf m):Qbr2 n:=by
 intro x deep H K hn hb hd hK;have hsz:=x.size_eq;refine Qb Qad Qbba ?_;have retf:∀(b:Bool) (e:Env),lk 4 e=.c (.bool b)→Qq Qpr K .ret e H:=by
  intro b e h1;simp only[go_sem,Qq,Q7,Qpr,Ja,forall_eq,RS.op,h1];exact hK _
 refine Qa ?_;simp only[go_sem,x.cells_eq];refine Q5 ?_;refine Qaf ?_;simp only[go_sem];have rest:∀b:Bool,(b=false→1≤deep∧x.args.length=if x.op=4 then 2 else 1)→Q8 prog (s_l3Stmt_2.seq Q9s) (Qq Qpr K)
   [(1,.c (.int .i64 deep)),(2,.c (.pp [.int .i64 x.op,.str x.name,.sl false 4 (Qw x.args),.sl false 5 (Qk x.body),.sl false 5 (Qk x.els)])),(23,.c (.bool b))] H:=by
  intro b hb;refine Qg (Qc rfl ?_ ?_)
  ·intro hc;refine Qa ?_;simp only[go_sem];refine Qi ?_;simp only[go_sem];exact retf false _ (by simp[lk])
  intro hc;obtain⟨hdp,hal⟩:=hb hc;have hap:0<x.args.length:=by rw[hal];split <;> omega
  refine Qf ?_;simp only[go_sem];refine Qa ?_;simp only[go_sem];refine Q5 ?_;refine Qa ?_;simp only[go_sem];refine Qaka fun b1=>?_;simp only[go_sem,Q9t];refine Qg (Qc rfl ?_ ?_)
  ·intro hc;refine Qa ?_;simp only[go_sem];refine Qi ?_;simp only[go_sem];exact retf false _ (by simp[lk])
  intro hc;refine Qf ?_;simp only[go_sem];refine Q5 ?_;refine Qa ?_;simp only[go_sem];refine Qg (Qe (Q2 (fun n e1 H1=>∃(i:Nat),n=x.args.length-i∧i≤x.args.length∧H1=H∧e1=[(1,.c (.int .i64 deep)),(2,.c (.pp [.int .i64 x.op,.str x.name,.sl false 4 (Qw x.args),.sl false 5 (Qk x.body),.sl false 5 (Qk x.els)])),(6,.c (.int .i64 i))]) x.args.length ?_ ?_))
  ·exact⟨0,by omega,by omega,rfl,rfl⟩
  ·rintro n e1 H1 ⟨i,hn1,hi,rfl,rfl⟩;refine Q5 ?_;refine Qa ?_;simp only[go_sem,Ql];intro hl;simp only[LIM]at hl;refine Qg (Qc rfl ?_ ?_)
   ·intro hc;have hlt:i<x.args.length:=(by simpa using hc);have hm:=Qar (Je hlt);refine Qf ?_;simp only[go_sem];refine Qg (Qe ?_);refine Qa ?_;simp only[go_sem,hlt,Ql,Qaq _ _ hlt,Ex.take4,Ex.allOw,Ex.cells_len];refine Qa5r (by omega) fun b=>?_;simp only[go_sem,Q9u];refine Qc rfl ?_ ?_
    ·intro hc2;refine Qa ?_;simp only[go_sem];refine Qi ?_;simp only[go_sem,X.next];exact retf false _ (by simp[lk])
    ·intro hc2;refine Qf ?_;simp only[go_sem];refine Qp ?_;simp only[go_sem,X.next];exact⟨Qm (by omega) (by omega),x.args.length-(i+1),by omega,i+1,rfl,by omega,rfl⟩
   ·intro hc;refine Q1 ?_;simp only[go_sem,X.next];refine Q5 ?_;refine Qa ?_;simp only[go_sem,hap,Ql,Qaq _ _ hap,Ex.cells_eq];refine⟨fun _=>Jbe _,?_⟩;refine Qg (Qc rfl ?_ ?_)
    ·intro hc;refine Qa ?_;simp only[go_sem];refine Qi ?_;simp only[go_sem];exact retf false _ (by simp[lk])
    intro hc;refine Qf ?_;simp only[go_sem];refine Q5 ?_;refine Qa ?_;simp only[go_sem,Qv]
    intros
    refine Qg (Qc rfl ?_ ?_)
    ·intro hc;refine Qa ?_;simp only[go_sem];refine Qi ?_;simp only[go_sem];exact retf false _ (by simp[lk])
    intro hc;refine Qf ?_;simp only[go_sem];refine Qa ?_;simp only[go_sem];refine⟨Qm (by omega) (by omega),?_⟩;refine hS (Qh x.body) (by omega) _ _ _ _ _ (Jl _) (by omega) (by omega) fun b1=>?_;simp only[go_sem,Q10];refine⟨fun _=>Qm (by omega) (by omega),?_⟩;refine⟨fun hb1=>?_,fun hb1=>?_⟩
    ·refine hS (Qh x.els) (by omega) _ _ _ _ _ (Jl _) (by omega) (by omega) fun b2=>?_;simp only[go_sem,Qks];refine Qi ?_;exact retf _ _ (by simp[lk];rfl)
    ·simp only[go_sem,Qks,hb1];refine Qi ?_;exact retf false _ (by simp[lk])
 refine⟨fun hb1=>?_,fun hb1=>?_⟩
 ·replace hb1:=Qk9 hb1;have hdp:1≤deep:=by simp at hb1;omega
  refine Qd2 ?_;simp only[go_sem,Qo2,hb1,Ql,cond_false];refine⟨fun hb2=>?_,fun hb2=>?_⟩
  ·refine Qbaz ?_;simp only[go_sem,Qf0,Ql];refine rest _ (fun h=>⟨hdp,?_⟩);have h1:(x.args.length:Int)=if x.op=4 then 2 else 1:=by
    cases h2:decide (1≤x.op∧x.op≤8) <;> rw[h2]at h <;> simp_all
   by_cases h4:x.op=4
   ·rw[if_pos h4]at h1⊢;omega
   ·rw[if_neg h4]at h1⊢;omega
  ·replace hb2:=Qeh hb2;simp only[go_sem,Qf0,hb2,Ql];exact rest _ (fun h=>by simp at h)
 ·replace hb1:=Qeh hb1;simp only[go_sem,Qo2,Qf0,hb1,Ql,cond_true];exact rest _ (fun h=>by simp at h)
theorem Qbrl (n:Nat):Qbgf n:=by
 induction n using Nat.strongRecOn with
 |ind n ih=>exact Qboj (Qbrk ih)
theorem Qbsq {f:Fn}(hf:Qh f.body≤2^40)(hK:∀b:Bool,K (.c (.bool b)) H):Qj prog Qaxv [.ag f.cells] H K:=by
 refine Qb Qad Qbo1 ?_;have retf:∀(b:Bool) (e:Env),lk 2 e=.c (.bool b)→Qq Qfh K .ret e H:=by
  intro b e h1;simp only[go_sem,Qq,Q7,Qfh,Ja,forall_eq,RS.op,h1];exact hK _
 refine Qa ?_;simp only[go_sem,Fn.cells];refine Q5 ?_;refine Qa ?_;simp only[go_sem];refine Qg (Qe (Q2 (fun n e1 H1=>∃(i:Nat),n=f.params.length-i∧i≤f.params.length∧H1=H∧e1=[(1,.c (.pp [.str f.name,.sl false 1 (Q9 f.params),.sl false 5 (Qk f.body)])),(3,.c (.int .i64 i))]) f.params.length ?_ ?_))
 ·exact⟨0,by omega,by omega,rfl,rfl⟩
 ·rintro n e1 H1 ⟨i,hn1,hi,rfl,rfl⟩;refine Q5 ?_;refine Qa ?_;simp only[go_sem,Qo];intro hl;simp only[LIM]at hl;refine Qg (Qc rfl ?_ ?_)
  ·intro hc;have hlt:i<f.params.length:=by simpa using hc
   refine Qf ?_;simp only[go_sem];refine Qg (Qe ?_);refine Qa ?_;simp only[go_sem,hlt,Qo,Qbs _ _ hlt];refine Qaka fun b=>?_;simp only[go_sem,Qaod];refine Qc rfl ?_ ?_
   ·intro hc2;refine Qa ?_;simp only[go_sem];refine Qi ?_;simp only[go_sem,X.next];exact retf false _ (by simp[lk])
   ·intro hc2;refine Qf ?_;simp only[go_sem];refine Qp ?_;simp only[go_sem,X.next];exact⟨Qm (by omega) (by omega),f.params.length-(i+1),by omega,i+1,rfl,by omega,rfl⟩
  ·intro hc;refine Q1 ?_;simp only[go_sem,X.next];refine Qa ?_;simp only[go_sem];refine Qaka fun b=>?_;simp only[go_sem,Qaoe,Qo]
   intros
   refine⟨fun hb1=>?_,fun hb1=>?_⟩
   ·refine Qbrl _ _ _ _ _ _ (Jl _) hf (by omega) fun b2=>?_;simp only[go_sem,Q05];refine Qi ?_;exact retf _ _ (by simp[lk];rfl)
   ·simp only[go_sem,Q05,hb1];refine Qi ?_;exact retf false _ (by simp[lk])
def Qs:List Fn→Nat
 |[]=>0
 |f::r=>Qh f.body+Qs r
theorem Qbf {l:List Fn}{f:Fn}(h:f∈l):Qh f.body≤Qs l:=by
 induction l with
 |nil=>simp at h
 |cons g r ih=>
  simp only[Qs];rcases J1.1 h with rfl|h
  ·omega
  ·have:=ih h;omega
theorem Qpk (a b:List Fn):Qs (a++b)=Qs a+Qs b:=by
 induction a with
 |nil=>simp[Qs]
 |cons x r ih=>simp only[Jj,Qs,ih];omega
theorem Qabj {l:List Fn}{i:Nat}(h:i<l.length):Qs (l.take (i+1))=Qs (l.take i)+Qh (l[i]'h).body:=by
 rw[Ji h,Qpk];simp[Qs]
theorem Qla (l:List Fn)(i:Nat):Qs (l.take i)≤Qs l:=by
 conv=>rhs;rw[←Jx i l,Qpk]
 omega
theorem Qbqp {l:List Fn}{fl:Bool}(hf:Qs l≤2^40)(hK:∀n:Int,K (.c (.int .i64 n)) H):Qj prog Qake [.ag [.sl fl 3 (Q3 l)]] H K:=by
 refine Qb Qad Qbh7 ?_;refine Qa ?_;simp only[go_sem];refine Qa ?_;simp only[go_sem];refine Q5 ?_;refine Qa ?_;simp only[go_sem];refine Qg (Qe (Q2 (fun n e1 H1=>∃(i v:Nat),n=l.length-i∧i≤l.length∧v≤Qs (l.take i)∧H1=H∧e1=[(1,.c (.pp [.sl fl 3 (Q3 l)])),(3,.c (.int .i64 v)),(4,.c (.int .i64 i))]) l.length ?_ ?_))
 ·exact⟨0,0,by omega,by omega,by omega,rfl,rfl⟩
 ·rintro n e1 H1 ⟨i,v,hn1,hi,hv,rfl,rfl⟩;refine Q5 ?_;refine Qa ?_;simp only[go_sem,Qx];intro hl;simp only[LIM]at hl;refine Qg (Qc rfl ?_ ?_)
  ·intro hc;have hlt:i<l.length:=by simpa using hc
   have hm:=Qbf (Je hlt);have htk:=Qabj hlt;have htl:=Qla l (i+1);refine Qf ?_;simp only[go_sem];refine Qg (Qe (Qp ?_));simp only[go_sem,hlt,Qx,Qat _ _ hlt,Fn.cells];refine Qbhq _ _ (Jl _) (by omega) fun c hc=>?_;simp only[go_sem,Qaey];refine⟨Qm (by omega) (by omega),?_⟩;refine Qp ?_;simp only[go_sem,X.next];exact⟨Qm (by omega) (by omega),l.length-(i+1),by omega,i+1,v+c,rfl,by omega,by omega,rfl⟩
  ·intro hc;refine Q1 ?_;simp only[go_sem,X.next];refine Qa ?_;simp only[go_sem];refine Qi ?_;simp only[go_sem,Qq,Q7,Qfh,Ja,forall_eq,RS.op];exact hK _
theorem Qar2 {l:List Fn}{fl:Bool}(hf:Qs l≤2^40)(hK:∀b:Bool,K (.c (.bool b)) H):Qj prog Qcn [.ag [.sl fl 3 (Q3 l)]] H K:=by
 refine Qb Qad Qq4 ?_;have retf:∀(b:Bool) (e:Env),lk 2 e=.c (.bool b)→Qq Qfh K .ret e H:=by
  intro b e h1;simp only[go_sem,Qq,Q7,Qfh,Ja,forall_eq,RS.op,h1];exact hK _
 refine Qa ?_;simp only[go_sem];refine Q5 ?_;refine Qa ?_;simp only[go_sem,Qx];intro hl;simp only[LIM]at hl;refine Qd2 ?_;simp only[go_sem,Qe5];refine Qg (Qc rfl ?_ ?_)
 ·intro hc;refine Qa ?_;simp only[go_sem];refine Qi ?_;simp only[go_sem];exact retf false _ (by simp[lk])
 intro hc;refine Qf ?_;simp only[go_sem];refine Q5 ?_;refine Qa ?_;simp only[go_sem];refine Qg (Qe (Q2 (fun n e1 H1=>∃(i:Nat),n=l.length-i∧i≤l.length∧H1=H∧e1=[(1,.c (.pp [.sl fl 3 (Q3 l)])),(3,.c (.int .i64 i))]) l.length ?_ ?_))
 ·exact⟨0,by omega,by omega,rfl,rfl⟩
 ·rintro n e1 H1 ⟨i,hn1,hi,rfl,rfl⟩;refine Q5 ?_;refine Qa ?_;simp only[go_sem,Qx];refine fun _=>?_;refine Qg (Qc rfl ?_ ?_)
  ·intro hc;have hlt:i<l.length:=by simpa using hc
   have hm:=Qbf (Je hlt);refine Qf ?_;simp only[go_sem];refine Qg (Qe ?_);refine Qa ?_;simp only[go_sem,hlt,Qx,Qat _ _ hlt,Fn.take3,Fn.allOw,Fn.cells_len];refine Qbsq (by omega) fun b=>?_;simp only[go_sem,Qe6];refine Qc rfl ?_ ?_
   ·intro hc2;refine Qa ?_;simp only[go_sem];refine Qi ?_;simp only[go_sem,X.next];exact retf false _ (by simp[lk])
   ·intro hc2;refine Qf ?_;simp only[go_sem];refine Qp ?_;simp only[go_sem,X.next];exact⟨Qm (by omega) (by omega),l.length-(i+1),by omega,i+1,rfl,by omega,rfl⟩
  ·intro hc;refine Q1 ?_;simp only[go_sem,X.next];refine Qa ?_;simp only[go_sem];refine Qbqp hf fun n=>?_;simp only[go_sem,Qe7];refine Qi ?_;exact retf _ _ (by simp[lk];rfl)
end Go.AE.Y
namespace Go.AE.Y
open Go.Proofs.Tryz
structure PrOk (l:List Fn):Prop where
 pos:0<l.length
 par:∀f∈l,f.params.length≤3
 ok:∀f∈l,Qcy f.body
 size:Qs l≤2^34
 len:l.length≤4
end Go.AE.Y
namespace Go.AE
open Go.AE.Y
open Go.Proofs.Tryz
theorem Kn.perm4 {H0 H:Heap}{E:List (Nat×Obj)}{a b c d:Nat×Obj}(kn:Kn H0 H E [a,b,c,d]):Kn H0 H E [a,b,d]:=
 Kn.drop (A:=[a,b,d]) (B:=[c]) (kn.perm (.cons _ (.cons _ (.swap _ _ _))))
end Go.AE
namespace Go.AE.Y
open Go.Proofs.Tryz
theorem Qba0 {R:Rdr}{k:Nat}{H:Heap}{K:V→Heap→Prop}(hR:H R.l=R.o k)(hk:k+7000000≤2^30)
  (hK:∀(l:List Fn) (H':Heap) (k':Nat),k<k'→k'≤k+7000000→Upd H H' [(R.l,R.o k')]→PrOk l→K (.ag [.sl false 3 (Q3 l)]) H') :
  Qj prog Qaay [.c (.ptr R.l 0)] H K:=by
 refine Qn ?_;refine Qb Qad Qbmw ?_;refine Qa ?_;simp only[go_sem];intro x2 hx2 H1 h1;have kn:=(Kn.start1 hR (R.o_ne k)).al hx2 h1;refine Qa ?_;simp only[go_sem];refine Qys (ns:=[14,20,8,26]) (kn.e 0 rfl) (by omega) (by simp) fun v H2 hv hu=>?_;have kn:=kn.callE 0 rfl hu (R.o_ne _);simp only[go_sem,Qapc];intro gl hgl H3 h3;have kn:Kn H H3 [(R.l,R.o (k+1))] [(x2,.st [.sl true 3 []]),(gl,GS.o ⟨[],(.sl true 3 [],[]),[],true,0,v⟩ R)]:=kn.al hgl h3;have hv26:0≤v∧v≤26:=by simp at hv;omega
 simp only[go_sem,Qapb];have hne:R.l≠gl:=kn.ne 0 1 rfl rfl;refine Q5 ?_;refine Qa ?_;simp only[go_sem];refine Qys (ns:=[0,1,1,2]) (kn.e 0 rfl) (by omega) (by simp) fun cnt H4 hcnt hu=>?_;have kn:=kn.callE 0 rfl hu (R.o_ne _);have hc2:0≤cnt∧cnt≤2:=by simp at hcnt;omega
 simp only[go_sem,Qapd];obtain⟨M,hM⟩:∃M:Nat,M=2001301:=⟨_,rfl⟩;refine Qg (Qe (Q2 (fun n e1 H1=>∃(j k4:Nat) (s:GS),n=cnt.toNat-j∧(j:Int)≤cnt∧s.fns.length=j∧k+2≤k4∧k4≤k+2+M * j∧s.ok k4∧(∀f∈s.fns,Qcy f.body)∧4 * k+Qs s.fns≤4 * k4∧
   Gr s.ffl.2 3 (Q3 s.fns) s.ffl.1∧Kn H H1 [(R.l,R.o k4)] ([(x2,.st [.sl true 3 []]),(gl,s.o R)]++s.ffl.2)∧
   e1=[(0,.c (.ptr R.l 0)),(2,.c (.ptr x2 0)),(3,.c (.ptr gl 0)),(4,.c (.int .i64 (cnt-j)))]) cnt.toNat ?_ ?_))
 ·refine⟨0,k+2,⟨[],(.sl true 3 [],[]),[],true,0,v⟩,by omega,by omega,rfl,by omega,by omega,⟨?_,?_,?_,?_,by simp,by simp,by simp⟩,by simp,by simp only[Qs];omega,.nil 3,kn,by simp⟩
  ·show -1≤(0:Int);omega
  ·show (0:Int)≤_;omega
  ·show _≤v;omega
  ·show v≤100;omega
 ·rintro n e1 H1 ⟨j,k4,s,hn,hj,hfl,hk4,hk4',hs,hfok,hsz,hgr,kn,rfl⟩;have hMj:M * j≤M * 2:=Jac _ (by omega);have hM1:M * (j+1)=M * j+M:=Jbd _ _;have hG1:=kn.l 1 rfl;have hfow:=hgr.isOw;have hflen:=hgr.lenC;rw[Qx]at hflen;refine Q5 ?_;refine Qa ?_;simp only[go_sem];refine Qg (Qc rfl ?_ ?_)
  ·intro hc;have hi:(j:Int)<cnt:=by simp at hc;omega
   refine Qf ?_;simp only[go_sem];refine Qg (Qe ?_);have hfok':=(hgr.okSl (B:=[_,_]) kn);have eg:List.getD [[C.str [102]],[C.str [103]],[C.str [104]]] s.fns.length []=[.str (List.getD [[102],[103],[104]] s.fns.length [])]:=Qbs [[102],[103],[104]] _ (by simp;omega);have hl3:s.fns.length<3:=by omega
   refine Qaf ?_;simp only[go_sem,hG1,GS.o,hfow,hflen,eq_true hfok',eg,hl3];refine Qcp (kn.e 0 rfl) (by omega) fun p H2 hp hu=>?_;have kn:Kn H H2 [(R.l,R.o (k4+1))] ([(x2,.st [.sl true 3 []]),(gl,s.o R)]++s.ffl.2):=kn.callE 0 rfl hu (R.o_ne _);rw[if_neg (by omega)]at hp;have hG2:=kn.l 1 rfl;have hfok2:=(hgr.okSl (B:=[_,_]) kn);simp only[go_sem,Qapg,hG2,GS.o,hfow,hflen,eq_true hfok2,eg,hl3];have hF:FnsOk H2 R gl s:=⟨hgr,fun q hq=>by
    have h1:=kn.get q (Jg _ (Jg _ hq));refine⟨h1.1,fun hh=>?_,fun hh=>?_⟩
    ·exact kn.usedE 0 rfl (hh▸kn.loc q (Jg _ hq))
    ·have:=kn.dL;rw[Jo]at this;exact (Jp.1 this).2.2 gl (by simp) q.1 (Qb6 hq) hh.symm⟩
   refine Qawf hp.1 (by omega) (kn.e 0 rfl) (kn.l 1 rfl) hne (hs.mono (Ja5 k4)) hF (by omega) fun f s2 H5 k5 g1 g2 hu hs2 g3 g4 g5 g6 g7=>?_;have kn:=kn.callEL 0 1 rfl rfl hu (R.o_ne _) (GS.o_ne _ _);have kn:Kn H H5 [(R.l,R.o k5)] ([(x2,.st [.sl true 3 []]),(gl,s2.o R)]++s.ffl.2):=kn;simp only[go_sem,Qapf];intro x5 hx5 H6 h6;have kn:=kn.al hx5 h6;have kn:=kn.perm (L':=[(x2,_),(gl,_),(x5,_)]++s.ffl.2) (by
    simp only[Jj,Jm];exact .cons _ (.cons _ Jk))
   have hG6:=kn.l 1 rfl;have hx56:=kn.l 2 rfl;have hfok6:=(hgr.okSl (B:=[_,_,_]) kn);simp only[go_sem,Qape,hG6,hx56,GS.o,g4,hfow,hflen,eq_true hfok6,eg,hl3,Fn.cells];intro H7 h7;have kn:Kn H H7 [(R.l,R.o k5)] ([(x2,_),(gl,_),(x5,_)]++s.ffl.2):=kn.stL 2 rfl h7;have hG7:=kn.l 1 rfl;have hx57:=kn.l 2 rfl;refine Qe8 ?_;simp only[go_sem,hG7,hx57,GS.o,g4,hfow];refine kn.grow (B:=[_,_,_]) (new:=[f.cells]) hgr (.mk' _ _ _ _) (by simp[f.noOw]) (by simp only[Qx,LIM,Jn,J2];omega) fun z H8 kn=>?_;have hG8:=kn.l 1 rfl;simp only[go_sem,Qaph,hG8,GS.o];intro H9 h9;have kn:=kn.stL 1 rfl h9;obtain⟨s9,hs9⟩:∃s9:GS,s9=GS.mk (s.fns++[f]) (C.vsl z 3 0 ((Q3 s.fns).length+1),[(z,Obj.vec 3 (Q3 s.fns++[f.cells]))]) s2.vars s2.vfl s2.next s2.left:=⟨_,rfl⟩;have ho9:s9.o R=.st [C.ptr R.l 0,C.vsl z 3 0 ((Q3 s.fns).length+1),C.sl s2.vfl 1 (Q9 s2.vars),C.int IntKind.i64 s2.next,C.int IntKind.i64 s2.left]:=by rw[hs9];rfl
   rw[←ho9]at kn;have kn:Kn H H9 [(R.l,R.o k5)] [(x2,_),(gl,s9.o R),(x5,_),(z,_)]:=kn;have kn:=kn.perm4;refine Qp ?_;simp only[go_sem,X.next];have hkb:k5≤k+2+M * (j+1):=by rw[hM1];omega
   refine⟨Qm (by omega) (by omega),cnt.toNat-(j+1),by omega,j+1,k5,s9,rfl,by omega,by simp[hs9,hfl],by omega,hkb,?_,?_,?_,?_,by rw[hs9]at kn⊢;exact kn,?_⟩
   ·subst hs9;refine⟨hs2.n0,hs2.n1,hs2.l0,hs2.l1,hs2.v,fun f' hf'=>?_,by simp;omega⟩;rcases Jf.1 hf' with h|h
    ·exact hs.f f' h
    ·simp at h;subst h;exact g5
   ·subst hs9;intro f' hf';rcases Jf.1 hf' with h|h
    ·exact hfok f' h
    ·simp at h;subst h;exact g6
   ·subst hs9;simp only[Qpk,Qs];omega
   ·subst hs9;show Gr [(z,Obj.vec 3 (Q3 s.fns++[f.cells]))] 3 (Q3 (s.fns++[f])) _;rw[Q3x];exact .mk _ _ _ (by simp[Qx])
   ·have:cnt-((j+1:Nat):Int)=cnt-j-1:=(by omega);rw[this]
  ·intro hc;refine Q1 ?_;simp only[go_sem,X.next];have hkE:k4≤k+4002604:=by omega
   refine Qa ?_;simp only[go_sem];refine Qys (ns:=[0,1,2,1]) (kn.e 0 rfl) (by omega) (by simp) fun p H2 hp hu=>?_;have kn:Kn H H2 [(R.l,R.o (k4+1))] ([(x2,.st [.sl true 3 []]),(gl,s.o R)]++s.ffl.2):=kn.callE 0 rfl hu (R.o_ne _);have hp2:0≤p∧p≤3:=by simp at hp;omega
   simp only[go_sem,Qag5];have hF:FnsOk H2 R gl s:=⟨hgr,fun q hq=>by
    have h1:=kn.get q (Jg _ (Jg _ hq));refine⟨h1.1,fun hh=>?_,fun hh=>?_⟩
    ·exact kn.usedE 0 rfl (hh▸kn.loc q (Jg _ hq))
    ·have:=kn.dL;rw[Jo]at this;exact (Jp.1 this).2.2 gl (by simp) q.1 (Qb6 hq) hh.symm⟩
   refine Qawf hp2.1 hp2.2 (kn.e 0 rfl) (kn.l 1 rfl) hne (hs.mono (Ja5 k4)) hF (by omega) fun f s2 H5 k5 g1 g2 hu hs2 g3 g4 g5 g6 g7=>?_;have kn:=kn.callEL 0 1 rfl rfl hu (R.o_ne _) (GS.o_ne _ _);have kn:Kn H H5 [(R.l,R.o k5)] ([(x2,.st [.sl true 3 []]),(gl,s2.o R)]++s.ffl.2):=kn;simp only[go_sem,Qag4];intro x6 hx6 H6 h6;have kn:=kn.al hx6 h6;have kn:=kn.perm (L':=[(x2,_),(gl,_),(x6,_)]++s.ffl.2) (by
    simp only[Jj,Jm];exact .cons _ (.cons _ Jk))
   have hx66:=kn.l 2 rfl;simp only[go_sem,Qag3,hx66,Fn.cells];intro H7 h7;have kn:Kn H H7 [(R.l,R.o k5)] ([(x2,_),(gl,_),(x6,_)]++s.ffl.2):=kn.stL 2 rfl h7;have hG7:=kn.l 1 rfl;have hx67:=kn.l 2 rfl;have hfok7:=hgr.okSl (B:=[_,_,_]) kn;have hrows7:=hgr.rowsOf (B:=[_,_,_]) kn;have hesz:=hgr.elemSz;have hL:s.fns.length≤LIM:=by simp only[LIM];omega
   refine Qaf ?_;simp only[go_sem,hG7,hx67,GS.o,g4,hfow,hflen,eq_true hfok7,hrows7,hesz,hL,Ju];refine⟨.inl trivial,Qc3 _,fun y hy H8 h8=>?_⟩;have kn:=kn.al hy h8;have kn:=kn.perm (L':=([(x2,_),(gl,_),(x6,_)]++[(y,_)])++s.ffl.2) Qbs0;have kn:=kn.drop;have hx68:=kn.l 2 rfl;have kn:Kn H H8 [(R.l,R.o k5)] [(x2,_),(gl,_),(x6,_),(y,_)]:=kn;have hy8:=kn.l 3 rfl;have etk:List.take s.fns.length (Q3 s.fns)=Q3 s.fns:=Jd (by rw[Qx];omega);simp only[go_sem,Qag8,hx68,hy8,Qx,etk];refine⟨by omega,by simp only[LIM];omega,fun z hz H9 h9=>?_⟩;have kn:Kn H H9 [(R.l,R.o k5)] [(x2,_),(gl,_),(x6,_),(z,.vec 3 (Q3 s.fns++[f.cells]))]:=kn.ap 3 rfl hz h9;simp only[go_sem,Qag7];intro x7 hx7 H10 h10;have kn:=kn.al hx7 h10;have hG10:=kn.l 1 rfl;have hx6a:=kn.l 2 rfl;have hx7a:=kn.l 4 rfl;have kn:Kn H H10 [(R.l,R.o k5)] [(x2,_),(gl,_),(x6,_),(z,_),(x7,_)]:=kn;simp only[go_sem,Qag6,hG10,hx6a,hx7a,GS.o,g4,hfow];intro H11 h11;have kn:=kn.stL 4 rfl h11;have kn:Kn H H11 [(R.l,R.o k5)] ([(x2,.st [.sl true 3 []]),(x7,.st [.vsl z 3 0 (s.fns.length+1)])]++[(z,.vec 3 (Q3 s.fns++[f.cells]))]):=
    (kn.perm (L':=([(x2,_),(x7,_)]++[(z,_)])++[(gl,_),(x6,_)]) (by
     simp only[List.set,Jj,Jm];refine .cons _ ?_;refine .trans (.cons _ (.cons _ (.swap _ _ _))) ?_;refine .trans (.cons _ (.swap _ _ _)) ?_;refine .trans (.swap _ _ _) ?_;refine .cons _ ?_;refine .trans (.cons _ (.swap _ _ _)) ?_;exact .swap _ _ _)).drop
   have hz11:=kn.l 2 rfl;have hx711:=kn.l 1 rfl;obtain⟨hfz,kn⟩:=kn.freeze 1 rfl (og':=.st [.sl false 3 (Q3 (s.fns++[f]))]) (FrzKL.st (.cons rfl (by
    rw[←Q3x];exact Qaxz (by simp) hz11 (by simp[Qx]) (Qabi (noOw_app (Qc3 _) (by simp[f.noOw])))) .nil)) (by simp)
   refine Q5 ?_;refine c_gh (Qi4 _ (fun t=>?_) hfz) (e':=[(2,V.c (C.ptr x2 0)),(7,V.c (C.ptr x7 0))]) ?_
   ·simp only[lk];split
    ·exact .c _ _ (.same _ rfl)
    ·split
     ·exact .c _ _ (.same _ rfl)
     ·exact .unk _
   generalize ((H11.frz fun m=>m == z).set x7 (Obj.st [C.sl false 3 (Q3 (s.fns++[f]))]))=H12 at *;have hx7b:=kn.l 1 rfl;have hx2b:=kn.l 0 rfl;have hpr:Qs (s.fns++[f])≤2^34:=by rw[Qpk];simp only[Qs];omega
   refine Qa ?_;simp only[go_sem,hx7b];refine Qar2 (by omega) fun b=>?_;simp only[go_sem,Qag9];refine Qg (Qc rfl ?_ ?_)
   ·intro hc;refine Qa ?_;simp only[go_sem,hx2b];intro H13 h13;have kn:=kn.stL 0 rfl h13;have hx2c:=kn.l 0 rfl;refine Qi ?_;simp only[go_sem,Qq,Q7,Qbbq,Ja,forall_eq,RS.op,hx2c];refine⟨.ag [.sl false 3 (Q3 [Fn.mk [109] [] [St.mk 3 [] [Ex.mk 1 1 [] []] [] []]])],FrzL.ag ?_,hK _ _ k5 (by omega) (by omega) kn.fin ⟨by simp,by simp,?_,?_,by simp⟩⟩
    ·simp only[Q3,Jw,Jam,Fn.cells,Qbf4,Qk,St.cells,Qw,Ex.cells]
     repeat' first|exact FrzL.nil|exact FrzR.nil|exact Qd rfl|exact FrzL.same (Ex.noOw _)|exact FrzL.same (St.noOw _)|refine FrzL.cons ?_ ?_|refine FrzR.cons ?_ ?_|refine FrzR.sl ?_
    ·intro f hf;simp at hf;subst hf;simp[Qcy,St.ok,Qda,Ex.ok]
    ·simp[Qs,Qh,St.size,Qr,Ex.size]
   ·intro hc;refine Qf ?_;simp only[go_sem];refine Qa ?_;simp only[go_sem,hx2b,hx7b];intro H13 h13;have kn:=kn.stL 0 rfl h13;have hx2c:=kn.l 0 rfl;refine Qi ?_;simp only[go_sem,Qq,Q7,Qbbq,Ja,forall_eq,RS.op,hx2c];refine⟨.ag [.sl false 3 (Q3 (s.fns++[f]))],FrzL.ag (.cons (Qd rfl) .nil),hK _ _ k5 (by omega) (by omega) kn.fin ⟨by simp,?_,?_,hpr,by simp;omega⟩⟩
    ·intro f' hf';rcases Jf.1 hf' with h|h
     ·exact hs.f f' h
     ·simp at h;subst h;exact g5
    ·intro f' hf';rcases Jf.1 hf' with h|h
     ·exact hfok f' h
     ·simp at h;subst h;exact g6
end Go.AE.Y
namespace Go.AE.Y
structure Blk where
 ic:C
 irows:List (List C)
 lg:List (Nat×Obj)
 jump:Int
 on:Int
 nfl:Bool
 next:List Int
def Blk.row (b:Blk):List C:=[.sl true 2 [],b.ic,.int .i64 b.jump,.int .i64 b.on,.sl b.nfl 1 (Q0 b.next)]
structure LS where
 fns:List Fn
 pfl:Bool
 params:Int
 regs:Int
 bc:C
 lb:List (Nat×Obj)
 blocks:List Blk
 at_:Nat
 vc:C
 lv:List (Nat×Obj)
 vars:List (List C)
 next:Int
def LS.o (s:LS):Obj:=.st [.sl s.pfl 3 (Q3 s.fns),.int .i64 s.params,.int .i64 s.regs,s.bc,.int .i64 s.at_,s.vc,.int .i64 s.next,.sl true 1 []]
def LS.L (s:LS)(w:Nat):List (Nat×Obj):=[(w,s.o)]++(s.lb++(s.lv++s.blocks.flatMap Blk.lg))
def InsRow (r:List C):Prop:=∃(op to n:Int) (fl:Bool) (args:List Int),r=[.int .i64 op,.int .i64 to,.sl fl 1 (Q0 args),.int .i64 n]
def VarRow (r:List C):Prop:=∃(s:List UInt8) (a b:Int),r=[.str s,.int .i64 a,.int .i64 b]
def VGr (lv:List (Nat×Obj))(vars:List (List C))(c:C):Prop:=
 (c=.sl true 3 []∧vars=[]∧lv=[])∨∃y all n,c=.vsl y 3 0 n∧n≤all.length∧vars=all.take n∧lv=[(y,.vec 3 all)]
structure LInv (F H:Heap)(w:Nat)(s:LS):Prop where
 kn:Kn F H [] (s.L w)
 gb:Gr s.lb 5 (s.blocks.map Blk.row) s.bc
 gv:VGr s.lv s.vars s.vc
 gi:∀b∈s.blocks,Gr b.lg 4 b.irows b.ic
 ri:∀b∈s.blocks,∀r∈b.irows,InsRow r
 rv:∀r∈s.vars,VarRow r
structure LS.ok (s:LS)(N:Nat):Prop where
 r0:0≤s.regs
 r1:s.regs≤N
 n0:0≤s.next
 n1:s.next≤N
 b1:s.blocks.length≤N
 i1:∀b∈s.blocks,b.irows.length≤N
 v1:s.vars.length≤N
theorem LS.ok.mono {s:LS}{N M:Nat}(h:s.ok N)(hm:N≤M):s.ok M:=
 ⟨h.r0,by have:=h.r1;omega,h.n0,by have:=h.n1;omega,by have:=h.b1;omega,fun b hb=>by have:=h.i1 b hb;omega,by have:=h.v1;omega⟩
theorem InsRow.noOw {r:List C}(h:InsRow r):Go.AE.noOw r=true:=by obtain⟨_,_,_,_,_,rfl⟩:=h;rfl
theorem VarRow.noOw {r:List C}(h:VarRow r):Go.AE.noOw r=true:=by obtain⟨_,_,_,rfl⟩:=h;rfl
theorem VGr.isOw {lv:List (Nat×Obj)}{vars:List (List C)}{c:C}(h:VGr lv vars c):c.isOw=false:=by
 rcases h with ⟨rfl,_⟩|⟨_,_,_,rfl,_⟩ <;> rfl
theorem VGr.elemSz {lv:List (Nat×Obj)}{vars:List (List C)}{c:C}(h:VGr lv vars c):c.elemSz=3:=by
 rcases h with ⟨rfl,_⟩|⟨_,_,_,rfl,_⟩ <;> rfl
theorem VGr.lenC {lv:List (Nat×Obj)}{vars:List (List C)}{c:C}(h:VGr lv vars c):Go.AE.lenC c=vars.length:=by
 rcases h with ⟨rfl,rfl,_⟩|⟨_,_,_,rfl,h,rfl,_⟩
 ·rfl
 ·simp[Go.AE.lenC];omega
variable {F H H':Heap}{w:Nat}{s:LS}
theorem LInv.hw (h:LInv F H w s):H w=s.o:=h.kn.l 0 rfl
theorem LInv.vget (h:LInv F H w s):okSl H s.vc=True∧rowsOf H s.vc=s.vars:=by
 rcases h.gv with ⟨h1,h2,_⟩|⟨y,all,n,h1,h2,h3,h4⟩
 ·rw[h1,h2];exact⟨rfl,rfl⟩
 ·have hy:H y=.vec 3 all:=(h.kn.get (y,.vec 3 all) (by simp[LS.L,h4])).1;rw[h1];refine⟨eq_true ?_,?_⟩
  ·simp only[Go.AE.okSl,hy];exact⟨trivial,by omega⟩
  ·simp only[Go.AE.rowsOf,hy,Jao,h3]
theorem LInv.bvec (h:LInv F H w s)(hb:0<s.blocks.length):∃y,s.bc=.vsl y 5 0 s.blocks.length∧s.lb=[(y,.vec 5 (s.blocks.map Blk.row))]∧H y=.vec 5 (s.blocks.map Blk.row):=by
 rcases h.gb with ⟨_,h2,_⟩|⟨y,h1,h2⟩
 ·simp at h2;rw[h2]at hb;simp at hb
 ·refine⟨y,by rw[h1];simp,h2,?_⟩;exact (h.kn.get (y,.vec 5 (s.blocks.map Blk.row)) (by simp[LS.L,h2])).1
theorem LInv.setw {s':LS}(h:LInv F H w s)(h1:H'=H.set w s'.o)(a1:s'.lb=s.lb)(a2:s'.lv=s.lv)(a3:s'.blocks=s.blocks)(a4:s'.bc=s.bc)(a5:VGr s.lv s'.vars s'.vc)(a6:∀r∈s'.vars,VarRow r):LInv F H' w s':=by
 refine⟨?_,by rw[a1,a3,a4];exact h.gb,by rw[a2];exact a5,by rw[a3];exact h.gi,by rw[a3];exact h.ri,a6⟩;have:=h.kn.stL 0 (x:=w) (o:=s.o) rfl h1 (by simp[LS.o]);simp only[LS.L,a1,a2,a3];exact this
theorem Qbm9 {α:Type}{A X Y:List α}:(A++(X++Y)).Perm ((A++Y)++X):=by
 rw[Js];exact .append_left _ Jk
theorem LInv.addBlk {K:V→Heap→Prop}{fl:Bool}{b:Blk}(h:LInv F H w s)(hl:s.blocks.length+1≤LIM)(b1:b.lg=[])(b2:b.ic=.sl true 4 [])(b3:b.irows=[])
  (hK:∀(y:Nat) (H1:Heap),H1 w=s.o→(∀H2,H2=H1.set w (LS.o { s with bc:=.vsl y 5 0 (s.blocks.length+1) })→
   LInv F H2 w { s with bc:=.vsl y 5 0 (s.blocks.length+1),lb:=[(y,.vec 5 ((s.blocks++[b]).map Blk.row))],blocks:=s.blocks++[b] })→K (.c (.vsl y 5 0 (s.blocks.length+1))) H1) :
  appQ H 5 s.bc (.sl fl 5 [b.row]) K:=by
 have kn:=h.kn;have kn:Kn F H [] (([(w,s.o)]++(s.lv++s.blocks.flatMap Blk.lg))++s.lb):=kn.perm Qbm9;refine kn.grow h.gb (.mk' _ _ _ _) (by
  intro r hr;simp only[Ja]at hr;subst hr;simp only[Blk.row,b2];rfl) (by simpa using hl) fun y H1 kn=>?_
 have e1:(s.blocks.map Blk.row).length+[b.row].length=s.blocks.length+1:=by simp
 rw[e1];refine hK y H1 (kn.l 0 rfl) fun H2 h2=>⟨?_,?_,h.gv,?_,?_,h.rv⟩
 ·have:=kn.stL 0 (x:=w) (o:=s.o) rfl h2 (by simp[LS.o]);simp only[LS.L,List.flatMap_append,List.flatMap_cons,List.flatMap_nil,b1,J9,Jo,Jw,Jam];simp only[Jj,Jm,Jau]at this⊢;refine this.perm (.cons _ ?_);exact Jk
 ·exact .mk _ _ _ (by simp)
 ·intro b' hb';rcases Jf.1 hb' with hb'|hb'
  ·exact h.gi b' hb'
  ·simp at hb';subst hb';rw[b1,b2,b3];exact .nil 4
 ·intro b' hb';rcases Jf.1 hb' with hb'|hb'
  ·exact h.ri b' hb'
  ·simp at hb';subst hb';rw[b3];simp
theorem Qak4 {α β:Type}(f:α→List β)(l:List α)(i:Nat)(hi:i<l.length):(l.flatMap f).Perm (f l[i]++(l.eraseIdx i).flatMap f):=by
 have h1:(l[i]::l.eraseIdx i).Perm l:=by
  rw[List.eraseIdx_eq_take_drop_succ];refine List.perm_middle.symm.trans ?_;rw[←List.drop_eq_getElem_cons hi,Jx]
 have h2:=h1.symm.flatMap_right f;simpa using h2
theorem Qakb {α β:Type}(f:α→List β)(l:List α)(i:Nat)(x:α)(hi:i<l.length):((l.set i x).flatMap f).Perm (f x++(l.eraseIdx i).flatMap f):=by
 have:=Qak4 f (l.set i x) i (by simpa using hi);simpa[List.eraseIdx_set_eq]using this
theorem Qtf (l:List Blk)(i:Nat)(b:Blk):(l.map Blk.row).set i b.row=(l.set i b).map Blk.row:=by rw[Jax]
theorem Qb0 {l:List Blk}{i:Nat}{b x:Blk}(h:x∈l.set i b):x=b∨x∈l:=by
 rcases Qb8 h with h|⟨j,_,h⟩
 ·exact .inl h
 ·exact .inr (Jq h)
theorem LInv.setBlk {b':Blk}{y i:Nat}(h:LInv F H w s)(hi:i<s.blocks.length)(hbc:s.bc=.vsl y 5 0 s.blocks.length)(hlb:s.lb=[(y,.vec 5 (s.blocks.map Blk.row))])
  (h1:H'=H.set y (.vec 5 ((s.blocks.set i b').map Blk.row))) (a1:b'.lg=s.blocks[i].lg) (a2:b'.ic=s.blocks[i].ic) (a3:b'.irows=s.blocks[i].irows) :
  LInv F H' w { s with lb:=[(y,.vec 5 ((s.blocks.set i b').map Blk.row))],blocks:=s.blocks.set i b' }:=by
 have hm:=Je hi;refine⟨?_,?_,h.gv,fun b hb=>?_,fun b hb=>?_,h.rv⟩
 ·have kn:=h.kn;simp only[LS.L,hlb]at kn;have kn:=kn.stL 1 (x:=y) rfl h1;refine kn.perm ?_;simp only[LS.L,Jj,Jm,Jau,List.set_cons_succ];refine .cons _ (.cons _ (.append_left _ ?_));refine (Qak4 Blk.lg s.blocks i hi).trans ?_;rw[←a1];exact (Qakb Blk.lg s.blocks i b' hi).symm
 ·simp only[hbc];exact .mk _ _ _ (by simp)
 ·rcases Qb0 hb with rfl|hb
  ·rw[a1,a2,a3];exact h.gi _ hm
  ·exact h.gi b hb
 ·rcases Qb0 hb with rfl|hb
  ·rw[a3];exact h.ri _ hm
  ·exact h.ri b hb
theorem LInv.addVar {K:V→Heap→Prop}{fl:Bool}{r:List C}(h:LInv F H w s)(hr:VarRow r)(hl:s.vars.length+1≤LIM)
  (hK:∀(y:Nat) (H1:Heap),H1 w=s.o→(∀H2,H2=H1.set w (LS.o { s with vc:=.vsl y 3 0 (s.vars.length+1) })→
   LInv F H2 w { s with vc:=.vsl y 3 0 (s.vars.length+1),lv:=[(y,.vec 3 (s.vars++[r]))],vars:=s.vars++[r] })→K (.c (.vsl y 3 0 (s.vars.length+1))) H1) :
  appQ H 3 s.vc (.sl fl 3 [r]) K:=by
 have hrv:∀r'∈s.vars++[r],VarRow r':=fun r' hr'=>by
  rcases Jf.1 hr' with h1|h1
  ·exact h.rv r' h1
  ·simp at h1;subst h1;exact hr
 have kn:=h.kn;have kn:Kn F H [] (([(w,s.o)]++(s.lb++s.blocks.flatMap Blk.lg))++s.lv):=kn.perm (by
  simp only[LS.L];refine List.Perm.trans (.append_left _ (.append_left _ Jk)) ?_;simp only[Js];exact .refl _)
 have fin:∀(y:Nat) (H1:Heap),Kn F H1 [] (([(w,s.o)]++(s.lb++s.blocks.flatMap Blk.lg))++[(y,.vec 3 (s.vars++[r]))])→K (.c (.vsl y 3 0 (s.vars.length+1))) H1:=by
  intro y H1 kn;refine hK y H1 (kn.l 0 rfl) fun H2 h2=>⟨?_,h.gb,.inr ⟨y,s.vars++[r],s.vars.length+1,rfl,by simp,by rw[Jd (by simp)],rfl⟩,h.gi,h.ri,hrv⟩;have kn:=kn.stL 0 (x:=w) (o:=s.o) rfl h2 (by simp[LS.o]);refine kn.perm ?_;simp only[LS.L,List.set,Jj,Jm,Js];refine .cons _ (.append_left _ ?_);exact Jk
 refine⟨trivial,rfl,?_⟩;rcases h.gv with ⟨h1,h2,h3⟩|⟨y,all,n,h1,h2,h3,h4⟩
 ·rw[h1];rw[h3,J9]at kn;simp only[rowsOf,Go.AE.lenC,Jm,J2,Ju,J8];refine⟨trivial,.inl trivial,by intro r' hr';simp only[Ja]at hr';subst hr';exact hr.noOw,by simp only[LIM];omega,fun l hl H' hH'=>?_⟩;have:=fin l H' (by rw[h2];simpa using kn.al hl hH');rw[h2]at this;exact this
 ·rw[h4]at kn;have hy:H y=.vec 3 all:=(kn.get (y,.vec 3 all) (by simp)).1;have hn:s.vars.length=n:=by rw[h3];simp;omega
  rw[h1];simp only[hy,rowsOf,Go.AE.lenC,Jao,J8];refine⟨trivial,trivial,by omega,by intro r' hr';simp only[Ja]at hr';subst hr';exact hr.noOw,by omega,fun l' hl' H' hH'=>?_⟩;rw[←hn]at hH'⊢;rw[hn,←h3]at hH';refine fin l' H' ?_;have:=kn.ap ([(w,s.o)]++(s.lb++s.blocks.flatMap Blk.lg)).length (y:=y) (o:=.vec 3 all) (by simp) hl' hH';simpa using this
end Go.AE.Y
namespace Go.AE.Y
open Go.Proofs.Tryz
variable {F H:Heap}{w:Nat}{s:LS}{K:V→Heap→Prop}
structure LStep (s s':LS)(d:Nat):Prop where
 bl:s.blocks.length≤s'.blocks.length
 ok:∀N,s.ok N→s'.ok (N+d)
 vl:s.vars.length≤s'.vars.length
 at_:s.at_<s.blocks.length→s'.at_<s'.blocks.length
 fn:s'.fns=s.fns∧s'.pfl=s.pfl∧s'.params=s.params
theorem LStep.trans {s s' s'':LS}{d e:Nat}(h:LStep s s' d)(k:LStep s' s'' e):LStep s s'' (d+e):=
 ⟨Jbb h.bl k.bl,fun N hN=>by rw[←Nat.add_assoc];exact k.ok _ (h.ok N hN),Jbb h.vl k.vl,fun ha=>k.at_ (h.at_ ha),k.fn.1.trans h.fn.1,k.fn.2.1.trans h.fn.2.1,k.fn.2.2.trans h.fn.2.2⟩
theorem LStep.refl (s:LS):LStep s s 0:=⟨Jl _,fun N h=>h,Jl _,fun h=>h,rfl,rfl,rfl⟩
theorem LStep.mono {s s':LS}{d e:Nat}(h:LStep s s' d)(hd:d≤e):LStep s s' e:=⟨h.bl,fun N hN=>(h.ok N hN).mono (by omega),h.vl,h.at_,h.fn⟩
end Go.AE.Y
namespace Go.AE
variable {H0 H H' F:Heap}{E L B A:List (Nat×Obj)}
theorem Kn.toFrame {y:Nat}{o:Obj}(kn:Kn F H [] (L++[(y,o)])):Kn (F.set y o) H [] L:=by
 have hnd:=kn.dL;rw[Jo]at hnd;have hne:∀p∈L,p.1≠y:=fun p hp hh=>(Jp.1 hnd).2.2 _ (Qb6 hp) y (by simp) hh;refine⟨fun p hp=>kn.get p (by simp only[Jm]at hp⊢;exact Jh _ hp),by simp,fun p hp=>?_,by simp,(Jp.1 hnd).1,fun m hm _=>?_⟩
 ·rw[Heap.set_other _ _ (hne p hp)];exact kn.loc p (Jh _ hp)
 ·by_cases h:m=y
  ·subst h;rw[Heap.set_same];exact (kn.get (m,o) (by simp)).1
  ·rw[Heap.set_other _ _ h]at hm⊢;exact kn.chg m hm (by simp)
theorem Kn.ofFrame {y:Nat}{o:Obj}(kn:Kn (F.set y o) H [] L)(hF:F y=.none)(ho:o≠.none):Kn F H [] (L++[(y,o)]):=by
 have hy:H y=o:=by have:=kn.chg y (by rw[Heap.set_same];exact ho) (by simp);rw[this,Heap.set_same]
 have hne:∀p∈L,p.1≠y:=fun p hp hh=>by have:=kn.loc p hp;rw[hh,Heap.set_same]at this;exact ho this
 refine⟨fun p hp=>?_,by simp,fun p hp=>?_,by simp,?_,fun m hm _=>?_⟩
 ·simp only[Jm]at hp;rcases Jf.1 hp with hp|hp
  ·exact kn.get p (by simpa using hp)
  ·simp at hp;subst hp;exact⟨hy,ho⟩
 ·rcases Jf.1 hp with hp|hp
  ·have:=kn.loc p hp;rw[Heap.set_other _ _ (hne p hp)]at this;exact this
  ·simp at hp;subst hp;exact hF
 ·rw[Jo];refine Jp.2 ⟨kn.dL,by simp,fun a ha b hb=>?_⟩;simp at hb;subst hb;obtain⟨p,hp,rfl⟩:=Jv.1 ha;exact hne p hp
 ·have hmy:m≠y:=fun h=>by subst h;exact hm hF
  have:=kn.chg m (by rw[Heap.set_other _ _ hmy];exact hm) (by simp);rw[this,Heap.set_other _ _ hmy]
theorem Kn.frz1 {z:Nat}{o:Obj}(kn:Kn H0 H E (B++[(z,o)])):Kn H0 (H.frz fun m=>m == z) E B:=by
 have hzf:H0 z=.none:=kn.loc (z,o) (by simp);have hnd:=kn.dL;rw[Jo]at hnd;have hne:∀p∈B,p.1≠z:=fun p hp hh=>(Jp.1 hnd).2.2 _ (Qb6 hp) z (by simp) hh;have hneE:∀p∈E,p.1≠z:=fun p hp hh=>kn.ext p hp (hh▸hzf);refine⟨fun p hp=>?_,kn.ext,fun p hp=>kn.loc p (Jh _ hp),kn.dE,(Jp.1 hnd).1,fun m hm hx=>?_⟩
 ·have:p.1≠z:=by
   rcases Jf.1 hp with h|h
   ·exact hneE p h
   ·exact hne p h
  have h2:(H.frz fun m=>m == z) p.1=H p.1:=by simp[Heap.frz,this]
  rw[h2];refine kn.get p ?_;rcases Jf.1 hp with h|h
  ·exact Jh _ h
  ·exact Jg _ (Jh _ h)
 ·have:m≠z:=fun h=>hm (h▸hzf);have h2:(H.frz fun m=>m == z) m=H m:=by simp[Heap.frz,this]
  rw[h2];exact kn.chg m hm hx
theorem Gr.freeze {Lg:List (Nat×Obj)}{sz:Nat}{rows:List (List C)}{c:C}(h:Gr Lg sz rows c)(kn:Kn H0 H E (B++Lg))(hr:∀r∈rows,noOw r=true) :
  ∃S H2,FrzC H S c (.sl false sz rows)∧FrzH H S H2∧Kn H0 H2 E B:=by
 rcases h with ⟨rfl,rfl,rfl⟩|⟨y,rfl,rfl⟩
 ·refine⟨fun _=>false,H,Y.FrzR.nil.sl,fun m=>.inr ⟨rfl,.same _⟩,by simpa using kn⟩
 ·exact⟨fun m=>m == y,_,(Y.FrzR.same hr).vsl (by simp) (kn.get (y,.vec sz rows) (by simp)).1 rfl,Q3y _ _,kn.frz1⟩
end Go.AE
namespace Go.AE.Y
variable {F H H':Heap}{w:Nat}{s:LS}{Lg:List (Nat×Obj)}{sz:Nat}{rows:List (List C)}{c:C}
theorem LInv.re {H2:Heap}(h:LInv F H w s)(kn:Kn F H2 [] (s.L w)):LInv F H2 w s:=⟨kn,h.gb,h.gv,h.gi,h.ri,h.rv⟩
theorem LInv.beside (h:LInv F H w s)(kn:Kn F H [] (s.L w++Lg))(hg:Gr Lg sz rows c) :
  ∃F',LInv F' H w s∧∀(s':LS) (H':Heap),LInv F' H' w s'→LInv F H' w s'∧Kn F H' [] (s'.L w++Lg):=by
 rcases hg with ⟨_,_,rfl⟩|⟨y,_,rfl⟩
 ·exact⟨F,h,fun s' H' h'=>⟨h',by simpa using h'.kn⟩⟩
 ·refine⟨F.set y (.vec sz rows),⟨kn.toFrame,h.gb,h.gv,h.gi,h.ri,h.rv⟩,fun s' H' h'=>?_⟩;have k2:=h'.kn.ofFrame (kn.loc (y,.vec sz rows) (by simp)) (by simp);exact⟨⟨k2.drop,h'.gb,h'.gv,h'.gi,h'.ri,h'.rv⟩,k2⟩
end Go.AE.Y
namespace Go.AE.Y
structure InsD where
 op:Int
 to:Int
 args:List Int
 n:Int
def InsD.cells (x:InsD):List C:=[.int .i64 x.op,.int .i64 x.to,.sl false 1 (Q0 x.args),.int .i64 x.n]
structure PhiD where
 to:Int
 args:List Int
def PhiD.cells (x:PhiD):List C:=[.int .i64 x.to,.sl false 1 (Q0 x.args)]
def Qn7 (l:List InsD):List (List C):=l.map InsD.cells
def Qf3 (l:List PhiD):List (List C):=l.map PhiD.cells
structure BlkD where
 phis:List PhiD
 ins:List InsD
 jump:Int
 on:Int
 next:List Int
def BlkD.cells (x:BlkD):List C:=[.sl false 2 (Qf3 x.phis),.sl false 4 (Qn7 x.ins),.int .i64 x.jump,.int .i64 x.on,.sl false 1 (Q0 x.next)]
def Qap (l:List BlkD):List (List C):=l.map BlkD.cells
structure CodeD where
 params:Int
 regs:Int
 blocks:List BlkD
def CodeD.cells (x:CodeD):List C:=[.int .i64 x.params,.int .i64 x.regs,.sl false 5 (Qap x.blocks)]
def Qy (l:List CodeD):List (List C):=l.map CodeD.cells
theorem Qco (l:List InsD):(Qn7 l).length=l.length:=by simp[Qn7]
theorem Qbr (l:List PhiD):(Qf3 l).length=l.length:=by simp[Qf3]
theorem Qal (l:List BlkD):(Qap l).length=l.length:=by simp[Qap]
theorem Qae (l:List CodeD):(Qy l).length=l.length:=by simp[Qy]
theorem Qnp (l:List InsD)(i:Nat)(h:i<l.length):(Qn7 l).getD i []=(l[i]'h).cells:=by simp[Qn7,Jc,h]
theorem Qfw (l:List PhiD)(i:Nat)(h:i<l.length):(Qf3 l).getD i []=(l[i]'h).cells:=by simp[Qf3,Jc,h]
theorem Qdf (l:List BlkD)(i:Nat)(h:i<l.length):(Qap l).getD i []=(l[i]'h).cells:=by simp[Qap,Jc,h]
theorem Qbe (l:List CodeD)(i:Nat)(h:i<l.length):(Qy l).getD i []=(l[i]'h).cells:=by simp[Qy,Jc,h]
theorem Qbcm (l:List InsD):∀r∈Qn7 l,noOw r=true:=by intro r hr;obtain⟨x,_,rfl⟩:=Jv.1 hr;rfl
theorem Qakq (l:List BlkD):∀r∈Qap l,noOw r=true:=by intro r hr;obtain⟨x,_,rfl⟩:=Jv.1 hr;rfl
theorem Qpc (l:List CodeD):∀r∈Qy l,noOw r=true:=by intro r hr;obtain⟨x,_,rfl⟩:=Jv.1 hr;rfl
theorem Qaf1 (a:List CodeD)(x:CodeD):Qy a++[x.cells]=Qy (a++[x]):=by simp[Qy]
variable {H:Heap}{S:Nat→Bool}
theorem Gr.frzM {Lg:List (Nat×Obj)}{sz:Nat}{rows rows':List (List C)}{c:C}(h:Gr Lg sz rows c)(hm:∀p∈Lg,H p.1=p.2∧S p.1=true)(hr:FrzR H S rows rows'):FrzC H S c (.sl false sz rows'):=by
 rcases h with ⟨rfl,rfl,rfl⟩|⟨y,rfl,rfl⟩
 ·cases hr;exact FrzR.nil.sl
 ·obtain⟨h1,h2⟩:=hm (y,.vec sz rows) (by simp);exact hr.vsl h2 h1 rfl
theorem InsRow.frz {r:List C}(h:InsRow r):∃d:InsD,FrzL H S r d.cells:=by
 obtain⟨op,to,n,fl,args,rfl⟩:=h;exact⟨⟨op,to,args,n⟩,.cons (Qd rfl) (.cons (Qd rfl) (.cons (FrzR.same (Qay _)).sl (.cons (Qd rfl) .nil)))⟩
def CodeD.fits (c:CodeD):Prop:=∀b∈c.blocks,b.ins.length≤2^38∧b.phis.length≤2^38
end Go.AE.Y
namespace Go.AE.Y
def keysL:List (List UInt8):=[[102,110],[108,101,116],[115,97,121],[112,117,116],[105,102],[101,108,115,101],[108,111,111,112],[98,97,99,107],[100,111]]
def Qde (b:UInt8):Bool:=decide (97≤b.toNat∧b.toNat≤122)
def Qdb (s:List UInt8):Bool:=decide (1≤s.length∧s.length≤4)&&s.all Qde&&!keysL.contains s
def Qfd (op:Int):Int:=if op=1∨op=2∨op=13 then 0 else if op=11∨op=12 then 1 else 2
def Qfc (op:Int):Int:=if op=1∨op=2 then 0 else if op=11∨op=12 then 1 else if op=13 then 3 else 2
def Qakv (op n:Int)(name:List UInt8)(k:Nat):Bool:=
 decide (1≤op∧op≤13)&&decide (Qfd op≤(k:Int)∧(k:Int)≤Qfc op)&&(decide (op=2∨op=13) == Qdb name)&&(decide (op=2∨op=13) || decide (name=[]))&&
  decide (0≤n∧n≤255)&&(decide (op=1) || decide (n=0))
mutual
def Ex.form:Ex→Int→Bool
 |.mk op n name kids,d=>decide (1≤d)&&Qakv op n name kids.length&&Qiz kids (d-1)
def Qiz:List Ex→Int→Bool
 |[],_=>true
 |x::r,d=>x.form d&&Qiz r d
end
theorem Ex.form_eq (x:Ex)(d:Int):x.form d=(decide (1≤d)&&Qakv x.op x.n x.name x.kids.length&&Qiz x.kids (d-1)):=by
 cases x;simp only[Ex.form,Ex.op,Ex.n,Ex.name,Ex.kids]
theorem Qakw (l:List Ex)(d:Int):Qiz l d=l.all fun x=>x.form d:=by
 induction l with
 |nil=>simp[Qiz]
 |cons x r ih=>simp[Qiz,ih]
def Ex.valid (x:Ex):Bool:=x.form 6&&decide (x.size≤30)
def argN (op:Int):Nat:=if op=4 then 2 else 1
def Q7u (op:Int)(name:List UInt8)(args:List Ex)(nb ne:Nat):Bool:=
 decide (1≤op∧op≤8)&&decide (args.length=argN op)&&(decide (op=1∨op=2) == Qdb name)&&(decide (op=1∨op=2) || decide (name=[]))&&args.all Ex.valid&&
  (!decide (op=8) || decide ((args.map Ex.op).getD 0 0=13))&&(decide (op=5) || decide (ne=0))&&(decide (op=5∨op=6) || decide (nb=0))
mutual
def St.form:St→Int→Bool
 |.mk op name args body els,d=>decide (1≤d)&&Q7u op name args body.length els.length&&Qan body (d-1)&&Qan els (d-1)
def Qan:List St→Int→Bool
 |[],_=>true
 |x::r,d=>x.form d&&Qan r d
end
theorem St.form_eq (x:St)(d:Int):x.form d=(decide (1≤d)&&Q7u x.op x.name x.args x.body.length x.els.length&&Qan x.body (d-1)&&Qan x.els (d-1)):=by
 cases x;simp only[St.form,St.op,St.name,St.args,St.body,St.els]
theorem Qaas (l:List St)(d:Int):Qan l d=l.all fun x=>x.form d:=by
 induction l with
 |nil=>simp[Qan]
 |cons x r ih=>simp[Qan,ih]
mutual
def St.cnt:St→Nat
 |.mk _ _ _ body els=>1+Qby body+Qby els
def Qby:List St→Nat
 |[]=>0
 |x::r=>x.cnt+Qby r
end
theorem St.cnt_eq (x:St):x.cnt=1+Qby x.body+Qby x.els:=by cases x;simp only[St.cnt,St.body,St.els]
def Fn.form (f:Fn):Bool:=f.params.all Qdb&&Qdb f.name&&decide (f.params.length≤3)&&Qan f.body 4
def Qes:List Fn→Nat
 |[]=>0
 |f::r=>Qby f.body+Qes r
theorem Qa03 (a b:List Fn):Qes (a++b)=Qes a+Qes b:=by
 induction a with
 |nil=>simp[Qes]
 |cons x r ih=>simp only[Jj,Qes,ih];omega
theorem Qac4 {l:List Fn}{i:Nat}(h:i<l.length):Qes (l.take (i+1))=Qes (l.take i)+Qby (l[i]'h).body:=by
 rw[Ji h,Qa03];simp[Qes]
def Qqf (l:List Fn):Bool:=decide (1≤l.length∧l.length≤4)&&l.all Fn.form&&decide (Qes l≤40)
mutual
def Ex.pre:Ex→List Ex
 |.mk op n name kids=>.mk op n name kids::Qac kids
def Qac:List Ex→List Ex
 |[]=>[]
 |x::r=>x.pre++Qac r
end
theorem Ex.pre_eq (x:Ex):x.pre=x::Qac x.kids:=by cases x;simp only[Ex.pre,Ex.kids]
theorem Qac6 (a b:List Ex):Qac (a++b)=Qac a++Qac b:=by
 induction a with
 |nil=>simp[Qac]
 |cons x r ih=>simp only[Jj,Qac,ih,Js]
def Qk7 (l:List Fn)(s:List UInt8):Option Nat:=l.findIdx? fun f=>decide (f.name=s)
abbrev Vars:=List (List (List UInt8×Nat))
def Vars.find (v:Vars)(s:List UInt8):Option Nat:=(v.flatten.find? fun p=>decide (p.1=s)).map Prod.snd
def Qfv (v:Vars)(s:List UInt8):Bool:=(v.headD []).any fun p=>decide (p.1=s)
def Qaj (v:Vars)(s:List UInt8)(n:Nat):Vars:=((s,n)::v.headD [])::v.tail
def Qc4 (a b:Int):Int:=if a=0 then b else a
def Qhi (fns:List Fn)(k:Nat)(v:Vars)(p:Ex):Int:=
 if p.op=2 then (if (v.find p.name).isSome then 0 else 3)
 else if p.op=13 then (match Qk7 (fns.take k) p.name with
  |none=>4
  |some j=>if ((fns[j]?.map fun f=>f.params.length).getD 0)=p.kids.length then 0 else 5)
 else 0
def Qbk (fns:List Fn)(k:Nat)(v:Vars)(l:List Ex)(c:Int):Int:=l.foldl (fun c p=>Qc4 c (Qhi fns k v p)) c
structure Ck where
 v:Vars
 c:Int
 n:Nat
def stC (fns:List Fn)(k:Nat)(op:Int)(name:List UInt8)(args:List Ex)(s:Ck):Ck:=
 let c:=Qbk fns k s.v (Qac args) s.c
 if op=1 then ⟨Qaj s.v name s.n,Qc4 c (if Qfv s.v name then 2 else 0),s.n+1⟩
 else if op=2 then ⟨s.v,Qc4 c (if (s.v.find name).isSome then 0 else 3),s.n⟩
 else ⟨s.v,c,s.n⟩
mutual
def St.ck (fns:List Fn)(k:Nat):St→Ck→Ck
 |.mk op name args body els,s=>
  let s1:=stC fns k op name args s;let s2:=Qau fns k body ⟨[]::s1.v,s1.c,s1.n⟩;let s3:=Qau fns k els ⟨[]::s1.v,s2.c,s2.n⟩
  ⟨s1.v,s3.c,s3.n⟩
def Qau (fns:List Fn)(k:Nat):List St→Ck→Ck
 |[],s=>s
 |x::r,s=>Qau fns k r (x.ck fns k s)
end
theorem St.ck_eq (fns:List Fn)(k:Nat)(x:St)(s:Ck):x.ck fns k s =
  ⟨(stC fns k x.op x.name x.args s).v,(Qau fns k x.els ⟨[]::(stC fns k x.op x.name x.args s).v,(Qau fns k x.body ⟨[]::(stC fns k x.op x.name x.args s).v,(stC fns k x.op x.name x.args s).c,(stC fns k x.op x.name x.args s).n⟩).c,
   (Qau fns k x.body ⟨[]::(stC fns k x.op x.name x.args s).v,(stC fns k x.op x.name x.args s).c,(stC fns k x.op x.name x.args s).n⟩).n⟩).c,
   (Qau fns k x.els ⟨[]::(stC fns k x.op x.name x.args s).v,(Qau fns k x.body ⟨[]::(stC fns k x.op x.name x.args s).v,(stC fns k x.op x.name x.args s).c,(stC fns k x.op x.name x.args s).n⟩).c,
   (Qau fns k x.body ⟨[]::(stC fns k x.op x.name x.args s).v,(stC fns k x.op x.name x.args s).c,(stC fns k x.op x.name x.args s).n⟩).n⟩).n⟩:=by
 cases x;simp only[St.ck,St.op,St.name,St.args,St.body,St.els]
theorem Qbks (fns:List Fn)(k:Nat)(a b:List St)(s:Ck):Qau fns k (a++b) s=Qau fns k b (Qau fns k a s):=by
 induction a generalizing s with
 |nil=>simp[Qau]
 |cons x r ih=>simp only[Jj,Qau,ih]
def Qq5 (ps:List (List UInt8))(s:Ck):Ck:=ps.foldl (fun s p=>⟨Qaj s.v p s.n,Qc4 s.c (if Qfv s.v p then 2 else 0),s.n+1⟩) s
def fnCk (fns:List Fn)(k:Nat):Ck:=match fns[k]? with
 |some f=>Qau fns k f.body (Qq5 f.params ⟨[[]],if Qk7 fns f.name=some k then 0 else 2,0⟩)
 |none=>⟨[],0,0⟩
def ckK (fns:List Fn)(k:Nat):Int:=(List.range k).foldl (fun c i=>Qc4 c (fnCk fns i).c) 0
def Qahw (fns:List Fn):Int:=if Qqf fns=true then ckK fns fns.length else 1
def Qak3 (fns:List Fn):Bool:=decide (Qahw fns=0)
theorem Qboe (fns:List Fn)(k:Nat)(op:Int)(name:List UInt8)(args:List Ex)(s:Ck){b:List (List UInt8×Nat)}{r:Vars}(h:s.v=b::r):∃b',(stC fns k op name args s).v=b'::r:=by
 simp only[stC];split
 ·exact⟨(name,s.n)::b,by simp[Qaj,h]⟩
 ·split
  ·exact⟨b,h⟩
  ·exact⟨b,h⟩
theorem Qaxi {l:List St}{i:Nat}(fns:List Fn)(k:Nat)(h:i<l.length)(s:Ck):Qau fns k (l.take (i+1)) s=(l[i]).ck fns k (Qau fns k (l.take i) s):=by
 rw[Ji h,Qbks];simp[Qau]
def nxN (nx:Nat→List Int)(b:Nat):List Nat:=(nx b).map Int.toNat
variable {g:Nat→List Nat}{xs:List Nat}{S S' S1:List Bool}{o o' o1:List Nat}
def cnt (S:List Bool):Nat:=S.count true
end Go.AE.Y
namespace Go.AE.Y
attribute [local instance] Classical.propDecidable
structure Flo where
 n:Nat
 nx:Nat→List Nat
 on:Nat→List Nat
 ins:Nat→List (Option Nat×List Nat)
 ph:Nat→List Nat
 ea:Nat→Nat→List Nat
abbrev RS':=Nat→Prop
variable {F:Flo}
def Flo.fits (F:Flo):Prop:=∀b,b<F.n→∀m∈F.nx b,m<F.n
end Go.AE.Y
namespace Go.AE.Y
attribute [local instance] Classical.propDecidable
mutual
def St.pre:St→List Ex
 |.mk _ _ args body els=>Qac args++Q3k body++Q3k els
def Q3k:List St→List Ex
 |[]=>[]
 |x::r=>x.pre++Q3k r
end
theorem St.pre_eq (x:St):x.pre=Qac x.args++Q3k x.body++Q3k x.els:=by cases x;simp only[St.pre,St.args,St.body,St.els]
theorem fst0_zero {a b:Int}:Qc4 a b=0↔a=0∧b=0:=by
 unfold Qc4;split <;> omega
theorem Qbau (a b c:Int):Qc4 (Qc4 a b) c=Qc4 a (Qc4 b c):=by
 unfold Qc4;by_cases h:a=0 <;> simp[h]
theorem Qawc (a:Int):Qc4 a 0=a:=by unfold Qc4;split <;> omega
theorem partsC_zero {fns:List Fn}{k:Nat}{v:Vars}{l:List Ex}{c:Int}:Qbk fns k v l c=0↔c=0∧∀e∈l,Qhi fns k v e=0:=by
 induction l generalizing c with
 |nil=>simp[Qbk]
 |cons x r ih=>
  have:Qbk fns k v (x::r) c=Qbk fns k v r (Qc4 c (Qhi fns k v x)):=rfl;rw[this,ih,fst0_zero];simp only[J1,forall_eq_or_imp,and_assoc]
def calC (fns:List Fn)(k:Nat)(p:Ex):Int:=match Qk7 (fns.take k) p.name with
 |none=>4
 |some j=>if ((fns[j]?.map fun f=>f.params.length).getD 0)=p.kids.length then 0 else 5
theorem Qawj {fns:List Fn}{k:Nat}{v:Vars}{p:Ex}(h:p.op=13):Qhi fns k v p=calC fns k p:=by
 rw[Qhi,if_neg (by omega),if_pos h];rfl
theorem Qbof {fns:List Fn}{k:Nat}{op:Int}{name:List UInt8}{args:List Ex}{s:Ck}(h:(stC fns k op name args s).c=0):s.c=0∧∀e∈Qac args,e.op=13→calC fns k e=0:=by
 have h2:Qbk fns k s.v (Qac args) s.c=0:=by
  unfold stC at h;simp only at h;split at h
  ·exact (fst0_zero.1 h).1
  ·split at h
   ·exact (fst0_zero.1 h).1
   ·exact h
 obtain⟨h3,h4⟩:=partsC_zero.1 h2;exact⟨h3,fun e he ho=>by rw[←Qawj (v:=s.v) ho];exact h4 e he⟩
mutual
theorem St.ck_zero {fns:List Fn}{k:Nat}:∀(x:St) {s:Ck},(x.ck fns k s).c=0→s.c=0∧∀e∈x.pre,e.op=13→calC fns k e=0
 |.mk op name args body els,s,h=>by
  simp only[St.ck]at h;obtain⟨h1,h2⟩:=Qdo els h;obtain⟨h3,h4⟩:=Qdo body h1;obtain⟨h5,h6⟩:=Qbof h3;refine⟨h5,fun e he ho=>?_⟩;simp only[St.pre,Jf]at he;rcases he with (he|he)|he
  ·exact h6 e he ho
  ·exact h4 e he ho
  ·exact h2 e he ho
theorem Qdo {fns:List Fn}{k:Nat}:∀(l:List St) {s:Ck},(Qau fns k l s).c=0→s.c=0∧∀e∈Q3k l,e.op=13→calC fns k e=0
 |[],s,h=>⟨h,by simp[Q3k]⟩
 |x::r,s,h=>by
  simp only[Qau]at h;obtain⟨h1,h2⟩:=Qdo r h;obtain⟨h3,h4⟩:=St.ck_zero x h1;refine⟨h3,fun e he ho=>?_⟩;simp only[Q3k,Jf]at he;rcases he with he|he
  ·exact h4 e he ho
  ·exact h2 e he ho
end
theorem Qa2e {ps:List (List UInt8)}{s:Ck}(h:(Qq5 ps s).c=0):s.c=0:=by
 induction ps generalizing s with
 |nil=>exact h
 |cons p r ih=>
  have:Qq5 (p::r) s=Qq5 r ⟨Qaj s.v p s.n,Qc4 s.c (if Qfv s.v p then 2 else 0),s.n+1⟩:=rfl;rw[this]at h;exact (fst0_zero.1 (ih h)).1
theorem Qawa {fns:List Fn}:∀(l:List Nat) (c:Int),l.foldl (fun c i=>Qc4 c (fnCk fns i).c) c=0↔c=0∧∀i∈l,(fnCk fns i).c=0
 |[],c=>by simp
 |x::r,c=>by
  rw[Ja0,Qawa r,fst0_zero];simp only[J1,forall_eq_or_imp,and_assoc]
theorem Qbam {fns:List Fn}{k:Nat}:ckK fns k=0↔∀i,i<k→(fnCk fns i).c=0:=by
 rw[ckK,Qawa];simp
structure FineP (fns:List Fn):Prop where
 v:Qqf fns=true
 c:∀k (h:k<fns.length),(Qau fns k fns[k].body (Qq5 fns[k].params ⟨[[]],0,0⟩)).c=0
 ix:∀k (h:k<fns.length),Qk7 fns fns[k].name=some k
theorem fine_iff {fns:List Fn}:Qak3 fns=true↔FineP fns:=by
 rw[Qak3,decide_eq_true_eq,Qahw];constructor
 ·intro h;split at h
  ·rename_i hv
   rw[Qbam]at h;have h1:∀k (hk:k<fns.length),(if Qk7 fns fns[k].name=some k then (0:Int)else 2)=0∧(Qau fns k fns[k].body (Qq5 fns[k].params ⟨[[]],if Qk7 fns fns[k].name=some k then 0 else 2,0⟩)).c=0:=fun k hk=>by
    have:=h k hk;rw[fnCk,Jt hk]at this;exact⟨Qa2e (Qdo _ this).1,this⟩
   have h2:∀k (hk:k<fns.length),Qk7 fns fns[k].name=some k:=fun k hk=>by
    have:=(h1 k hk).1;split at this
    ·assumption
    ·simp at this
   refine⟨hv,fun k hk=>?_,h2⟩;have:=(h1 k hk).2;rw[if_pos (h2 k hk)]at this;exact this
  ·simp at h
 ·intro h;rw[if_pos h.v,Qbam];intro k hk;rw[fnCk,Jt hk];simp only[];rw[if_pos (h.ix k hk)];exact h.c k hk
theorem FineP.len {fns:List Fn}(h:FineP fns):0<fns.length∧fns.length≤4:=by
 have:=h.v;simp only[Qqf,Jb,decide_eq_true_eq]at this;omega
theorem Qx8 {l:List Fn}{s:List UInt8}{j:Nat}(h:Qk7 l s=some j):∃hj:j<l.length,l[j].name=s∧∀i (hi:i<j),l[i].name≠s:=by
 rw[Qk7,List.findIdx?_eq_some_iff_getElem]at h;obtain⟨hj,h1,h2⟩:=h;exact⟨hj,by simpa using h1,fun i hi=>by simpa using h2 i hi⟩
theorem Qbp7 {l:List Fn}{s:List UInt8}{j:Nat}(hj:j<l.length)(h1:l[j].name=s)(h2:∀i (hi:i<j),l[i].name≠s):Qk7 l s=some j:=by
 rw[Qk7,List.findIdx?_eq_some_iff_getElem];exact⟨hj,by simpa using h1,fun i hi=>by simpa using h2 i hi⟩
theorem FineP.inj {fns:List Fn}(h:FineP fns){i j:Nat}(hi:i<fns.length)(hj:j<fns.length)(he:fns[i].name=fns[j].name):i=j:=by
 have h1:=h.ix i hi;rw[he,h.ix j hj]at h1;exact (Jbf h1).symm
theorem FineP.call {fns:List Fn}(h:FineP fns){k:Nat}(hk:k<fns.length){e:Ex}(he:e∈Q3k fns[k].body)(ho:e.op=13) :
  ∃j,∃hj:j<k,∃hl:j<fns.length,fns[j].name=e.name∧fns[j].params.length=e.kids.length:=by
 have:=(Qdo _ (h.c k hk)).2 e he ho;unfold calC at this
 cases hx:Qk7 (fns.take k) e.name with
 |none=>rw[hx]at this;simp at this
 |some j=>
  rw[hx]at this;obtain⟨hj,h1,_⟩:=Qx8 hx;rw[Jaj]at hj;have hl:j<fns.length:=by omega
  refine⟨j,by omega,hl,by simpa using h1,?_⟩;simp only[Jt hl,Ja6,Jak]at this;split at this
  ·assumption
  ·simp at this
end Go.AE.Y
namespace Go.AE.Y
theorem Qa2g (fns:List Fn)(k:Nat)(v:Vars)(a:Int):∀(l:List Ex) (c:Int),Qbk fns k v l (Qc4 a c)=Qc4 a (Qbk fns k v l c)
 |[],c=>rfl
 |x::r,c=>by
  show Qbk fns k v r (Qc4 (Qc4 a c) (Qhi fns k v x))=Qc4 a (Qbk fns k v r (Qc4 c (Qhi fns k v x)));rw[Qbau,Qa2g fns k v a r]
theorem Qbto (fns:List Fn)(k:Nat)(op:Int)(name:List UInt8)(args:List Ex)(a:Int)(s:Ck) :
  stC fns k op name args ⟨s.v,Qc4 a s.c,s.n⟩=⟨(stC fns k op name args s).v,Qc4 a (stC fns k op name args s).c,(stC fns k op name args s).n⟩:=by
 simp only[stC,Qa2g];split
 ·simp only[Qbau]
 ·split
  ·simp only[Qbau]
  ·rfl
mutual
theorem St.ck_sh (fns:List Fn)(k:Nat)(a:Int):∀(x:St) (s:Ck),x.ck fns k ⟨s.v,Qc4 a s.c,s.n⟩=⟨(x.ck fns k s).v,Qc4 a (x.ck fns k s).c,(x.ck fns k s).n⟩
 |.mk op name args body els,s=>by
  simp only[St.ck,Qbto];have h1:=Qakk fns k a body ⟨[]::(stC fns k op name args s).v,(stC fns k op name args s).c,(stC fns k op name args s).n⟩;simp only at h1;rw[h1];have h2:=Qakk fns k a els ⟨[]::(stC fns k op name args s).v,(Qau fns k body ⟨[]::(stC fns k op name args s).v,(stC fns k op name args s).c,(stC fns k op name args s).n⟩).c,(Qau fns k body ⟨[]::(stC fns k op name args s).v,(stC fns k op name args s).c,(stC fns k op name args s).n⟩).n⟩;simp only at h2;rw[h2]
theorem Qakk (fns:List Fn)(k:Nat)(a:Int):∀(l:List St) (s:Ck),Qau fns k l ⟨s.v,Qc4 a s.c,s.n⟩=⟨(Qau fns k l s).v,Qc4 a (Qau fns k l s).c,(Qau fns k l s).n⟩
 |[],s=>by simp only[Qau]
 |x::r,s=>by
  simp only[Qau];rw[St.ck_sh fns k a x s];exact Qakk fns k a r (x.ck fns k s)
end
theorem Qbii (a:Int):∀(ps:List (List UInt8)) (s:Ck),Qq5 ps ⟨s.v,Qc4 a s.c,s.n⟩=⟨(Qq5 ps s).v,Qc4 a (Qq5 ps s).c,(Qq5 ps s).n⟩
 |[],s=>rfl
 |p::r,s=>by
  show Qq5 r ⟨Qaj s.v p s.n,Qc4 (Qc4 a s.c) (if Qfv s.v p then 2 else 0),s.n+1⟩=_;rw[Qbau];exact Qbii a r ⟨Qaj s.v p s.n,Qc4 s.c (if Qfv s.v p then 2 else 0),s.n+1⟩
theorem Qa2d {ps:List (List UInt8)}{j:Nat}(h:j<ps.length)(s:Ck):Qq5 (ps.take (j+1)) s =
  ⟨Qaj (Qq5 (ps.take j) s).v ps[j] (Qq5 (ps.take j) s).n,Qc4 (Qq5 (ps.take j) s).c (if Qfv (Qq5 (ps.take j) s).v ps[j]then 2 else 0),(Qq5 (ps.take j) s).n+1⟩:=by
 rw[Ji h];simp only[Qq5,List.foldl_append,Ja0,List.foldl_nil];rfl
def ixC (fns:List Fn)(k:Nat)(name:List UInt8):Int:=if Qk7 fns name=some k then 0 else 2
theorem Qbp5 {fns:List Fn}{k:Nat}(h:k<fns.length)(a:Int) :
  (Qau fns k fns[k].body (Qq5 fns[k].params ⟨[[]],Qc4 a (ixC fns k fns[k].name),0⟩)).c=Qc4 a (fnCk fns k).c:=by
 have h1:=Qbii a fns[k].params ⟨[[]],ixC fns k fns[k].name,0⟩;simp only at h1;rw[h1];have h2:=Qakk fns k a fns[k].body (Qq5 fns[k].params ⟨[[]],ixC fns k fns[k].name,0⟩);rw[h2,fnCk,Jt h];rfl
theorem Qaxq (fns:List Fn)(k:Nat):ckK fns (k+1)=Qc4 (ckK fns k) (fnCk fns k).c:=by
 rw[ckK,ckK,List.range_succ,List.foldl_append];rfl
theorem Qbp6 {l:List Fn}{i:Nat}(h:i<l.length):∃j,Qk7 l l[i].name=some j∧j≤i:=by
 cases hx:Qk7 l l[i].name with
 |none=>
  rw[Qk7,List.findIdx?_eq_none_iff]at hx;have:=hx l[i] (Je h);simp at this
 |some j=>
  refine⟨j,rfl,?_⟩;obtain⟨hj,h1,h2⟩:=Qx8 hx;rcases Jbc i j with hlt|hge
  ·exact absurd rfl (h2 i hlt)
  ·exact hge
def vT:Vars→List (List UInt8×Nat×Nat)
 |[]=>[]
 |b::r=>b.map (fun p=>(p.1,p.2,r.length))++vT r
def row3 (x:List UInt8×Nat×Nat):List C:=[.str x.1,.int .i64 x.2.1,.int .i64 x.2.2]
def Qb2 (v:Vars):List (List C):=((vT v).map row3).reverse
theorem Q3n (v:Vars):(Qb2 v).length=(vT v).length:=by simp[Qb2]
theorem Qsw (v:Vars):Qb2 ([]::v)=Qb2 v:=by simp[Qb2,vT]
theorem Qarz (s:List UInt8)(n:Nat)(b:List (List UInt8×Nat))(r:Vars):Qb2 (((s,n)::b)::r)=Qb2 (b::r)++[row3 (s,n,r.length)]:=by simp[Qb2,vT]
theorem Qbf7 (b:List (List UInt8×Nat))(r:Vars):(Qb2 (b::r)).take (Qb2 r).length=Qb2 r:=by
 simp[Qb2,vT]
theorem Qbos (b:List (List UInt8×Nat))(r:Vars):(Qb2 r).length≤(Qb2 (b::r)).length:=by simp[Qb2,vT]
theorem Qaxm (v:Vars){i:Nat}(h:i<(vT v).length):(Qb2 v).getD i []=row3 ((vT v)[(vT v).length-1-i]'(by omega)):=by
 have hi:i<(Qb2 v).length:=by rw[Q3n];exact h
 rw[Jc,Jt hi,Jak];simp[Qb2]
theorem Qbtv:∀(v:Vars),∀x∈vT v,x.2.2<v.length
 |[],x,h=>by simp[vT]at h
 |b::r,x,h=>by
  simp only[vT,Jf,Jv]at h;rcases h with ⟨p,_,rfl⟩|h
  ·simp
  ·have:=Qbtv r x h;simp only[Jn];omega
theorem Qbrv (v:Vars)(s:List UInt8):v.find s=((vT v).find? fun x=>decide (x.1=s)).map fun x=>x.2.1:=by
 induction v with
 |nil=>rfl
 |cons b r ih=>
  have h1:Vars.find (b::r) s=((b.find? fun p=>decide (p.1=s)).map Prod.snd).or (Vars.find r s):=by
   rw[Vars.find,Vars.find,List.flatten_cons,List.find?_append];cases b.find? fun p=>decide (p.1=s) <;> rfl
  rw[h1,ih,vT,List.find?_append,List.find?_map];have h2:((fun x:List UInt8×Nat×Nat=>decide (x.1=s)) ∘ fun p:List UInt8×Nat=>(p.1,p.2,r.length))=fun p=>decide (p.1=s):=rfl;rw[h2];cases b.find? fun p=>decide (p.1=s) <;> rfl
theorem Qbtw (b:List (List UInt8×Nat))(r:Vars)(s:List UInt8):Qfv (b::r) s=(((vT (b::r)).find? fun x=>decide (x.1=s)).map fun x=>decide (x.2.2=r.length)).getD false:=by
 rw[vT,List.find?_append,List.find?_map];have h2:((fun x:List UInt8×Nat×Nat=>decide (x.1=s)) ∘ fun p:List UInt8×Nat=>(p.1,p.2,r.length))=fun p=>decide (p.1=s):=rfl;rw[h2,Qfv,Ja1]
 cases hb:b.find? fun p=>decide (p.1=s)with
 |some p=>
  have h1:=List.find?_some hb;have h3:=List.mem_of_find?_eq_some hb;have:(b.any fun p=>decide (p.1=s))=true:=Jai.2 ⟨p,h3,h1⟩;rw[this];simp
 |none=>
  have:(b.any fun p=>decide (p.1=s))=false:=by
   rw[List.find?_eq_none]at hb;rw[List.any_eq_false];exact hb
  rw[this]
  cases hr:(vT r).find? fun x=>decide (x.1=s)with
  |none=>rfl
  |some x=>
   have:=Qbtv r x (List.mem_of_find?_eq_some hr);have hne:¬x.2.2=r.length:=by omega
   simp[hne]
theorem Qbp3 {α:Type}{l:List α}{p:α→Bool}{k:Nat}(hk:k<l.length)(h:p l[k]=true)(hn:∀x∈l.take k,¬p x=true):l.find? p=some l[k]:=by
 rw[List.find?_eq_some_iff_getElem];refine⟨h,k,hk,rfl,fun j hj=>?_⟩;have:=hn l[j] (by rw[List.mem_take_iff_getElem];exact⟨j,by omega,rfl⟩);simpa using this
theorem Qbg2 (l:List Fn)(k:Nat)(s:List UInt8):Qk7 (l.take k) s=match Qk7 l s with
  |some j=>if j<k then some j else none
  |none=>none:=by
 cases h:Qk7 l s with
 |none=>
  rw[Qk7,List.findIdx?_eq_none_iff]at h⊢;exact fun f hf=>h f (List.mem_of_mem_take hf)
 |some j=>
  obtain⟨hj,h1,h2⟩:=Qx8 h;by_cases hk:j<k
  ·simp only[hk,if_true];exact Qbp7 (by rw[Jaj];omega) (by rw[Jaw];exact h1) fun i hi=>by rw[Jaw];exact h2 i hi
  ·simp only[hk,if_false];rw[Qk7,List.findIdx?_eq_none_iff];intro f hf;obtain⟨i,hi,rfl⟩:=List.mem_take_iff_getElem.1 hf;have:=h2 i (by omega);simpa using this
theorem Qbbh (fns:List Fn)(k:Nat)(v:Vars)(p:Ex):Qhi fns k v p =
  if p.op=2 then (if (v.find p.name).isSome then 0 else 3)
  else if p.op=13 then (match Qk7 fns p.name with
   |none=>4
   |some j=>if k≤j then 4 else if ((fns[j]?.map fun f=>f.params.length).getD 0)=p.kids.length then 0 else 5)
  else 0:=by
 rw[Qhi];split
 ·rfl
 ·split
  ·rw[Qbg2]
   cases h:Qk7 fns p.name with
   |none=>rfl
   |some j=>
    simp only[];by_cases hk:j<k
    ·have:¬k≤j:=(by omega);simp only[hk,if_true,this,if_false]
    ·have:k≤j:=(by omega);simp only[hk,if_false,this,if_true]
  ·rfl
theorem Qbtl (fns:List Fn)(k:Nat)(op:Int)(name:List UInt8)(args:List Ex)(s:Ck):s.n≤(stC fns k op name args s).n∧(stC fns k op name args s).n≤s.n+1:=by
 simp only[stC];split
 ·exact⟨by simp,by simp⟩
 ·split <;> exact⟨by simp,by simp⟩
mutual
theorem St.ck_n (fns:List Fn)(k:Nat):∀(x:St) (s:Ck),s.n≤(x.ck fns k s).n∧(x.ck fns k s).n≤s.n+x.size
 |.mk op name args body els,s=>by
  simp only[St.ck,St.size];have h1:=Qbtl fns k op name args s;have h2:=Qaar fns k body ⟨[]::(stC fns k op name args s).v,(stC fns k op name args s).c,(stC fns k op name args s).n⟩;have h3:=Qaar fns k els ⟨[]::(stC fns k op name args s).v,(Qau fns k body ⟨[]::(stC fns k op name args s).v,(stC fns k op name args s).c,(stC fns k op name args s).n⟩).c,(Qau fns k body ⟨[]::(stC fns k op name args s).v,(stC fns k op name args s).c,(stC fns k op name args s).n⟩).n⟩;simp only at h2 h3;omega
theorem Qaar (fns:List Fn)(k:Nat):∀(l:List St) (s:Ck),s.n≤(Qau fns k l s).n∧(Qau fns k l s).n≤s.n+Qh l
 |[],s=>by simp[Qau]
 |x::r,s=>by
  simp only[Qau,Qh];have h1:=St.ck_n fns k x s;have h2:=Qaar fns k r (x.ck fns k s);omega
end
theorem Qbod (fns:List Fn)(k:Nat)(op:Int)(name:List UInt8)(args:List Ex)(s:Ck){b:List (List UInt8×Nat)}{r:Vars}(hv:s.v=b::r)(h:(Qb2 (b::r)).length≤s.n):(Qb2 (stC fns k op name args s).v).length≤(stC fns k op name args s).n:=by
 simp only[stC];split
 ·simp only[Qaj,hv,Ja1,List.tail_cons,Qarz,Jas,J8];omega
 ·split
  ·simp only[hv];exact h
  ·simp only[hv];exact h
theorem Qbla (fns:List Fn){i:Nat}{c:Int}(h:ckK fns i=c)(hc:c≠0):∀n,i≤n→ckK fns n=c:=by
 intro n hn
 induction n with
 |zero=>have:i=0:=by omega
        subst this;exact h
 |succ n ih=>
  rcases Jbc i (n+1)with hlt|hge
  ·rw[Qaxq,ih (by omega),Qc4,if_neg hc]
  ·have:i=n+1:=by omega
   subst this;exact h
attribute [local instance] Classical.propDecidable
def ixI:Option Nat→Int
 |none=>-1
 |some j=>j
end Go.AE.Y
namespace Go.AE.Y
structure Lw where
 regs:Int
 bs:List BlkD
 at_:Nat
def blk0:BlkD:=⟨[],[],0,0,[]⟩
def Lw.put (s:Lw)(op to n:Int)(args:List Int):Lw:={ s with bs:=s.bs.modify s.at_ fun b=>{ b with ins:=b.ins++[⟨op,to,args,n⟩] } }
def Lw.fresh (s:Lw):Lw:={ s with regs:=s.regs+1 }
def Lw.add (s:Lw)(n:Nat):Lw:={ s with bs:=s.bs++List.replicate n blk0 }
def Lw.jump (s:Lw)(kind on:Int)(next:List Int)(at':Nat):Lw:={ s with bs:=s.bs.modify s.at_ fun b=>{ b with jump:=kind,on:=on,next:=next },at_:=at' }
def Lw.make (s:Lw)(op n:Int)(args:List Int):Lw:=s.fresh.put op s.regs n args
def Qasl (op:Int):Int:=if op=11 then 10 else if op=12 then 11 else if op=13 then 14 else op
mutual
def Ex.low (rg fi:List UInt8→Int):Ex→Lw→Lw×Int
 |.mk op n name kids,s=>
  if op=1 then (s.make 1 n [],s.regs)
  else if op=2 then (s,rg name)
  else if op=10 then Qu3 rg fi kids s
  else ((Qab rg fi kids s).1.make (Qasl op) (if op=13 then fi name else 0) (Qab rg fi kids s).2,(Qab rg fi kids s).1.regs)
def Qab (rg fi:List UInt8→Int):List Ex→Lw→Lw×List Int
 |[],s=>(s,[])
 |x::r,s=>((Qab rg fi r (x.low rg fi s).1).1,(x.low rg fi s).2::(Qab rg fi r (x.low rg fi s).1).2)
def Qu3 (rg fi:List UInt8→Int):List Ex→Lw→Lw×Int
 |[],s=>(s,0)
 |x::r,s=>
  let s1:=(x.low rg fi s).1;let s2:=s1.make 1 0 []
  (Qnu rg fi s1.regs s1.bs.length r ((s2.add 2).jump 2 (x.low rg fi s).2 [(s1.bs.length:Int),(s1.bs.length:Int)+1] s1.bs.length),s1.regs)
def Qnu (rg fi:List UInt8→Int)(t:Int)(right:Nat):List Ex→Lw→Lw
 |[],s=>s
 |x::_,s=>
  let s1:=(x.low rg fi s).1
  ((s1.make 10 0 [(x.low rg fi s).2]).put 10 t 0 [s1.regs]).jump 1 0 [(right:Int)+1] (right+1)
end
theorem Q7y (rg fi:List UInt8→Int)(l:List Ex)(x:Ex)(s:Lw):Qab rg fi (l++[x]) s=((x.low rg fi (Qab rg fi l s).1).1,(Qab rg fi l s).2++[(x.low rg fi (Qab rg fi l s).1).2]):=by
 induction l generalizing s with
 |nil=>simp[Qab]
 |cons y r ih=>simp only[Jj,Qab,ih]
theorem Qbcg (rg fi:List UInt8→Int)(l:List Ex)(s:Lw):(Qab rg fi l s).2.length=l.length:=by
 induction l generalizing s with
 |nil=>simp[Qab]
 |cons y r ih=>simp only[Qab,Jn,ih]
def Qa1 (v:Vars)(dflt:Int)(s:List UInt8):Int:=match v.find s with
 |some n=>(n:Int)
 |none=>dflt
structure Lv where
 s:Lw
 v:Vars
 next:Nat
def Lv.one (w:Lv)(d:Int)(fi:List UInt8→Int)(op:Int)(name:List UInt8)(args:List Ex):Lv:=
 let s1:=(Qab (Qa1 w.v d) fi args w.s).1;let rs:=(Qab (Qa1 w.v d) fi args w.s).2
 if op=1 then ⟨s1.put 2 (w.next:Int) 0 rs,Qaj w.v name w.next,w.next+1⟩
 else if op=2 then ⟨s1.put 2 (Qa1 w.v d name) 0 rs,w.v,w.next⟩
 else if op=3 then ⟨s1.put 13 (-1) 0 rs,w.v,w.next⟩
 else if op=4 then ⟨s1.put 12 (-1) 0 rs,w.v,w.next⟩
 else if op=7 then ⟨(s1.add 1).jump 3 (rs.getD 0 0) [] s1.bs.length,w.v,w.next⟩
 else ⟨s1,w.v,w.next⟩
mutual
def St.low (d:Int)(fi:List UInt8→Int):St→Lv→Lv
 |.mk op name args body els,w=>
  if op=6 then
   let b:=w.s.bs.length;let s1:=(w.s.add 3).jump 1 0 [(b:Int)] b;let s2:=(Qab (Qa1 w.v d) fi (args.take 1) s1).1;let s3:=s2.jump 2 ((Qab (Qa1 w.v d) fi (args.take 1) s1).2.getD 0 0) [(b:Int)+1,(b:Int)+2] (b+1);let w4:=Qak d fi body ⟨s3,[]::w.v,w.next⟩
   ⟨w4.s.jump 1 0 [(b:Int)] (b+2),w.v,w4.next⟩
  else if op=5 then
   let s1:=(Qab (Qa1 w.v d) fi args w.s).1;let b:=s1.bs.length;let s2:=(s1.add 3).jump 2 ((Qab (Qa1 w.v d) fi args w.s).2.getD 0 0) [(b:Int),(b:Int)+1] b;let w3:=Qak d fi body ⟨s2,[]::w.v,w.next⟩;let w4:=Qak d fi els ⟨w3.s.jump 1 0 [(b:Int)+2] (b+1),[]::w.v,w3.next⟩
   ⟨w4.s.jump 1 0 [(b:Int)+2] (b+2),w.v,w4.next⟩
  else w.one d fi op name args
def Qak (d:Int)(fi:List UInt8→Int):List St→Lv→Lv
 |[],w=>w
 |x::r,w=>Qak d fi r (x.low d fi w)
end
theorem Qaxj (d:Int)(fi:List UInt8→Int)(a b:List St)(w:Lv):Qak d fi (a++b) w=Qak d fi b (Qak d fi a w):=by
 induction a generalizing w with
 |nil=>simp[Qak]
 |cons x r ih=>simp only[Jj,Qak,ih]
mutual
def St.lets:St→Nat
 |.mk op _ _ body els=>(if op=1 then 1 else 0)+Qu body+Qu els
def Qu:List St→Nat
 |[]=>0
 |x::r=>x.lets+Qu r
end
def Qyu (ps:List (List UInt8)):Vars×Nat:=ps.foldl (fun s p=>(Qaj s.1 p s.2,s.2+1)) ([[]],0)
def Qce (fns:List Fn)(s:List UInt8):Int:=match Qk7 fns s with
 |some n=>(n:Int)
 |none=>-1
def Qo6 (d:Int)(fns:List Fn)(f:Fn):CodeD:=
 let w:=Qak d (Qce fns) f.body ⟨⟨(f.params.length:Int)+Qu f.body,[blk0],0⟩,(Qyu f.params).1,f.params.length⟩;let s:=(w.s.make 1 0 []).jump 3 w.s.regs [] w.s.at_
 ⟨f.params.length,s.regs,s.bs⟩
def Qbd (d:Int)(fns:List Fn):List CodeD:=fns.map (Qo6 d fns)
def Qct (n:Nat):List UInt8:=[118,UInt8.ofNat (97+n)]
theorem Q4a {n:Nat}(h:n<26):Qdb (Qct n)=true:=by
 have:∀m:Fin 26,Qdb (Qct m.val)=true:=by decide
 exact this ⟨n,h⟩
theorem Qa5o {a b:Nat}(ha:a<26)(hb:b<26)(h:Qct a=Qct b):a=b:=by
 have:∀x y:Fin 26,Qct x.val=Qct y.val→x=y:=by decide
 have:=this ⟨a,ha⟩ ⟨b,hb⟩ h;exact congrArg Fin.val this
mutual
def Ex.ren (rg:List UInt8→Nat):Ex→Ex
 |.mk op n name kids=>.mk op n (if op=2 then Qct (rg name)else name) (Qbz rg kids)
def Qbz (rg:List UInt8→Nat):List Ex→List Ex
 |[]=>[]
 |x::r=>x.ren rg::Qbz rg r
end
theorem Qi0 (rg:List UInt8→Nat)(l:List Ex):Qbz rg l=l.map (Ex.ren rg):=by
 induction l with
 |nil=>simp[Qbz]
 |cons x r ih=>simp[Qbz,ih]
theorem Ex.ren_eq (rg:List UInt8→Nat)(x:Ex):x.ren rg=.mk x.op x.n (if x.op=2 then Qct (rg x.name)else x.name) (Qbz rg x.kids):=by
 cases x;simp only[Ex.ren,Ex.op,Ex.n,Ex.name,Ex.kids];rfl
def Qdl (v:Vars)(s:List UInt8):Nat:=(v.find s).getD 0
structure RnQ where
 v:Vars
 n:Nat
mutual
def St.ren:St→RnQ→St×RnQ
 |.mk op name args body els,s=>
  let s1:RnQ:=if op=1 then ⟨Qaj s.v name s.n,s.n+1⟩else s;let b:=Qaw body ⟨[]::s1.v,s1.n⟩;let e:=Qaw els ⟨[]::s1.v,b.2.n⟩
  (.mk op (if op=1 then Qct s.n else if op=2 then Qct (Qdl s.v name)else name) (Qbz (Qdl s.v) args) b.1 e.1,⟨s1.v,e.2.n⟩)
def Qaw:List St→RnQ→List St×RnQ
 |[],s=>([],s)
 |x::r,s=>((x.ren s).1::(Qaw r (x.ren s).2).1,(Qaw r (x.ren s).2).2)
end
theorem Qbad (l:List St)(x:St)(s:RnQ):Qaw (l++[x]) s=((Qaw l s).1++[(x.ren (Qaw l s).2).1],(x.ren (Qaw l s).2).2):=by
 induction l generalizing s with
 |nil=>simp[Qaw]
 |cons y r ih=>simp only[Jj,Qaw,ih]
theorem Qafw (l:List St)(s:RnQ):(Qaw l s).1.length=l.length:=by
 induction l generalizing s with
 |nil=>simp[Qaw]
 |cons y r ih=>simp only[Qaw,Jn,ih]
def Qp5 (n:Nat):List (List UInt8):=(List.range n).map Qct
def Fn.ren (f:Fn):Fn:=⟨f.name,Qp5 f.params.length,(Qaw f.body ⟨(Qyu f.params).1,f.params.length⟩).1⟩
def Qpv (v:Vars):Vars:=v.map fun b=>b.map fun p=>(Qct p.2,p.2)
def VOk (v:Vars)(n:Nat):Prop:=(v.flatten.map Prod.snd).Nodup∧∀p∈v.flatten,p.2<n
theorem Qa2o (v:Vars):(Qpv v).flatten=v.flatten.map fun p=>(Qct p.2,p.2):=by
 induction v with
 |nil=>rfl
 |cons b r ih=>simp only[Qpv,Jw,List.flatten_cons,Jo]at ih⊢;rw[ih]
theorem Qblr {l:List (List UInt8×Nat)}{n:Nat}(hn:n≤26)(h1:(l.map Prod.snd).Nodup)(h2:∀p∈l,p.2<n){s:List UInt8}{m:Nat}(hf:(l.find? fun p=>decide (p.1=s)).map Prod.snd=some m) :
  ((l.map fun p=>(Qct p.2,p.2)).find? fun p=>decide (p.1=Qct m)).map Prod.snd=some m:=by
 obtain⟨p,hp,rfl⟩:=Option.map_eq_some_iff.1 hf;have hpm:=List.mem_of_find?_eq_some hp;clear hf hp
 induction l with
 |nil=>simp at hpm
 |cons a r ih=>
  have ha:=h2 a J5;have hp2:=h2 p hpm;rw[Jw,List.find?_cons];by_cases he:Qct a.2=Qct p.2
  ·have:=Qa5o (by omega) (by omega) he;simp[this]
  ·simp only[he,decide_false];have:p≠a:=fun e=>he (by rw[e]);exact ih (Ja3.1 h1).2 (fun q hq=>h2 q (J3 _ hq)) (by simpa[this]using hpm)
theorem VOk.find {v:Vars}{n:Nat}(h:VOk v n)(hn:n≤26){s:List UInt8}{m:Nat}(hf:v.find s=some m):(Qpv v).find (Qct m)=some m:=by
 rw[Vars.find,Qa2o];exact Qblr hn h.1 h.2 hf
theorem Qblq {v:Vars}{s:List UInt8}{m:Nat}(hf:v.find s=some m):∃p∈v.flatten,p.2=m:=by
 obtain⟨p,hp,rfl⟩:=Option.map_eq_some_iff.1 hf;exact⟨p,List.mem_of_find?_eq_some hp,rfl⟩
theorem VOk.lt {v:Vars}{n:Nat}(h:VOk v n){s:List UInt8}{m:Nat}(hf:v.find s=some m):m<n:=by
 obtain⟨p,hp,rfl⟩:=Qblq hf;exact h.2 p hp
theorem VOk.put {v:Vars}{n:Nat}(h:VOk v n)(s:List UInt8):VOk (Qaj v s n) (n+1):=by
 have e:(Qaj v s n).flatten=(s,n)::v.flatten:=by
  cases v with
  |nil=>rfl
  |cons b r=>simp[Qaj]
 refine⟨?_,fun p hp=>?_⟩
 ·rw[e,Jw,Ja3];refine⟨fun hm=>?_,h.1⟩;obtain⟨p,hp,he⟩:=Jv.1 hm;have:=h.2 p hp;omega
 ·rw[e]at hp;rcases J1.1 hp with rfl|hp
  ·show n<n+1;omega
  ·have:=h.2 p hp;omega
theorem VOk.push {v:Vars}{n:Nat}(h:VOk v n):VOk ([]::v) n:=by
 have e:(([]:List (List UInt8×Nat))::v).flatten=v.flatten:=by simp
 exact⟨by rw[e];exact h.1,by rw[e];exact h.2⟩
theorem VOk.mono {v:Vars}{n m:Nat}(h:VOk v n)(hm:n≤m):VOk v m:=⟨h.1,fun p hp=>by have:=h.2 p hp;omega⟩
theorem Qakg (v:Vars)(s:List UInt8)(n:Nat):Qpv (Qaj v s n)=Qaj (Qpv v) (Qct n) n:=by
 cases v with
 |nil=>rfl
 |cons b r=>rfl
theorem VOk.top {v:Vars}{n:Nat}(h:VOk v n)(hn:n<26):Qfv (Qpv v) (Qct n)=false:=by
 rw[Qfv,List.any_eq_false];intro p hp;have hm:p∈(Qpv v).flatten:=by
  cases hv:Qpv v with
  |nil=>rw[hv]at hp;simp at hp
  |cons b r=>rw[hv]at hp;simp at hp;simp[hp]
 rw[Qa2o]at hm;obtain⟨q,hq,rfl⟩:=Jv.1 hm;have h2:=h.2 q hq;simp only[decide_eq_true_eq];intro he;have:=Qa5o (by omega) hn he;omega
def AllV (v:Vars)(l:List Ex):Prop:=∀e∈l,e.op=2→(v.find e.name).isSome=true
theorem AllV.app {v:Vars}{a b:List Ex}(h:AllV v (a++b)):AllV v a∧AllV v b:=⟨fun e he=>h e (Jh _ he),fun e he=>h e (Jg _ he)⟩
mutual
theorem Ex.low_ren {v:Vars}{n:Nat}(hv:VOk v n)(hn:n≤26){d d':Int}{fi:List UInt8→Int}:∀(x:Ex) (s:Lw),AllV v x.pre→(x.ren (Qdl v)).low (Qa1 (Qpv v) d) fi s=x.low (Qa1 v d') fi s
 |.mk op m name kids,s,h=>by
  simp only[Ex.pre]at h;have hk:AllV v (Qac kids):=fun e he=>h e (J3 _ he);simp only[Ex.ren,Ex.low];by_cases h1:op=1
  ·simp only[h1,if_true]
  ·simp only[h1,if_false];by_cases h2:op=2
   ·simp only[h2,if_true];have:=h (.mk op m name kids) J5 (by simpa[Ex.op]using h2);obtain⟨r,hr⟩:=J0.1 this;have hr:v.find name=some r:=hr;have e1:Qdl v name=r:=(by simp[Qdl,hr]);rw[e1];simp only[Qa1,hr,hv.find hn hr]
   ·simp only[h2,if_false];by_cases h3:op=10
    ·simp only[h3,if_true];exact Qbcf hv hn kids s hk
    ·simp only[h3,if_false];rw[Qqs hv hn kids s hk]
theorem Qqs {v:Vars}{n:Nat}(hv:VOk v n)(hn:n≤26){d d':Int}{fi:List UInt8→Int}:∀(l:List Ex) (s:Lw),AllV v (Qac l)→Qab (Qa1 (Qpv v) d) fi (Qbz (Qdl v) l) s=Qab (Qa1 v d') fi l s
 |[],s,_=>by simp[Qbz,Qab]
 |x::r,s,h=>by
  simp only[Qac]at h;simp only[Qbz,Qab];rw[Ex.low_ren hv hn x s h.app.1,Qqs hv hn r _ h.app.2]
theorem Qbcf {v:Vars}{n:Nat}(hv:VOk v n)(hn:n≤26){d d':Int}{fi:List UInt8→Int}:∀(l:List Ex) (s:Lw),AllV v (Qac l)→Qu3 (Qa1 (Qpv v) d) fi (Qbz (Qdl v) l) s=Qu3 (Qa1 v d') fi l s
 |[],s,_=>by simp[Qbz,Qu3]
 |x::r,s,h=>by
  simp only[Qac]at h;simp only[Qbz,Qu3];rw[Ex.low_ren hv hn x s h.app.1,Qa52 hv hn r _ _ _ h.app.2]
theorem Qa52 {v:Vars}{n:Nat}(hv:VOk v n)(hn:n≤26){d d':Int}{fi:List UInt8→Int}:∀(l:List Ex) (t:Int) (r:Nat) (s:Lw),AllV v (Qac l)→Qnu (Qa1 (Qpv v) d) fi t r (Qbz (Qdl v) l) s=Qnu (Qa1 v d') fi t r l s
 |[],t,r,s,_=>by simp[Qbz,Qnu]
 |x::l,t,r,s,h=>by
  simp only[Qac]at h;simp only[Qbz,Qnu];rw[Ex.low_ren hv hn x s h.app.1]
end
mutual
theorem Ex.size_ren (rg:List UInt8→Nat):∀(x:Ex),(x.ren rg).size=x.size
 |.mk op m name kids=>by simp only[Ex.ren,Ex.size,Qaky rg kids]
theorem Qaky (rg:List UInt8→Nat):∀(l:List Ex),Qr (Qbz rg l)=Qr l
 |[]=>by simp[Qbz]
 |x::r=>by simp only[Qbz,Qr,Ex.size_ren rg x,Qaky rg r]
end
theorem Qac8 (rg:List UInt8→Nat)(l:List Ex):(Qbz rg l).length=l.length:=by rw[Qi0];simp
mutual
theorem Ex.form_ren {rg:List UInt8→Nat}(h:∀s,rg s<26):∀(x:Ex) (d:Int),x.form d=true→(x.ren rg).form d=true
 |.mk op m name kids,d,hf=>by
  simp only[Ex.form,Jb]at hf;simp only[Ex.ren,Ex.form,Jb];refine⟨⟨hf.1.1,?_⟩,Qakx h kids _ hf.2⟩;have h1:=hf.1.2;rw[Qac8];simp only[Qakv,Jb]at h1⊢;by_cases h2:op=2
  ·have hn:=Q4a (h name);subst h2;refine⟨⟨⟨⟨h1.1.1.1.1,?_⟩,?_⟩,h1.1.2⟩,h1.2⟩
   ·simp[hn]
   ·simp
  ·rw[if_neg h2];exact h1
theorem Qakx {rg:List UInt8→Nat}(h:∀s,rg s<26):∀(l:List Ex) (d:Int),Qiz l d=true→Qiz (Qbz rg l) d=true
 |[],d,_=>by simp[Qbz,Qiz]
 |x::r,d,hf=>by
  simp only[Qiz,Jb]at hf;simp only[Qbz,Qiz,Jb];exact⟨Ex.form_ren h x d hf.1,Qakx h r d hf.2⟩
end
theorem Ex.valid_ren {rg:List UInt8→Nat}(h:∀s,rg s<26){x:Ex}(hv:x.valid=true):(x.ren rg).valid=true:=by
 simp only[Ex.valid,Jb,decide_eq_true_eq]at hv⊢;exact⟨Ex.form_ren h x 6 hv.1,by rw[Ex.size_ren];exact hv.2⟩
theorem Qbbd {v:Vars}{n:Nat}(h:VOk v n)(hn:n≤26)(s:List UInt8):Qdl v s<26:=by
 unfold Qdl
 cases hf:v.find s with
 |none=>simp
 |some m=>have:=h.lt hf;simp;omega
theorem Qbtm (fns:List Fn)(k:Nat)(op:Int)(name:List UInt8)(args:List Ex)(s:Ck):(stC fns k op name args s).n=s.n+if op=1 then 1 else 0:=by
 unfold stC;split
 ·rename_i h;simp[h]
 ·rename_i h
  split <;> simp[h]
mutual
theorem St.ck_nr (fns:List Fn)(k:Nat):∀(x:St) (s:Ck),(x.ck fns k s).n=s.n+x.lets
 |.mk op name args body els,s=>by
  simp only[St.ck,St.lets];rw[Qaki fns k els,Qaki fns k body,Qbtm];omega
theorem Qaki (fns:List Fn)(k:Nat):∀(l:List St) (s:Ck),(Qau fns k l s).n=s.n+Qu l
 |[],s=>by simp[Qau,Qu]
 |x::r,s=>by
  simp only[Qau,Qu];rw[Qaki fns k r,St.ck_nr fns k x];omega
end
mutual
theorem St.ren_n:∀(x:St) (s:RnQ),(x.ren s).2.n=s.n+x.lets
 |.mk op name args body els,s=>by
  simp only[St.ren,St.lets];rw[Qnl els,Qnl body];by_cases h1:op=1
  ·simp only[h1,if_true];omega
  ·simp only[h1,if_false];omega
theorem Qnl:∀(l:List St) (s:RnQ),(Qaw l s).2.n=s.n+Qu l
 |[],s=>by simp[Qaw,Qu]
 |x::r,s=>by
  simp only[Qaw,Qu];rw[Qnl r,St.ren_n x];omega
end
theorem St.ren_2 (x:St)(s:RnQ):(x.ren s).2=⟨if x.op=1 then Qaj s.v x.name s.n else s.v,s.n+x.lets⟩:=by
 have h:=St.ren_n x s;have h2:(x.ren s).2.v=if x.op=1 then Qaj s.v x.name s.n else s.v:=by
  cases x with
  |mk op name args body els=>
   simp only[St.ren,St.op,St.name];by_cases h1:op=1
   ·simp only[h1,if_true]
   ·simp only[h1,if_false]
 generalize (x.ren s).2=R at h h2⊢;obtain⟨a,b⟩:=R;simp only at h h2;rw[h,h2]
theorem Qbo2 (w:Lv)(d:Int)(fi:List UInt8→Int)(op:Int)(name:List UInt8)(args:List Ex) :
  (w.one d fi op name args).v=(if op=1 then Qaj w.v name w.next else w.v)∧(w.one d fi op name args).next=w.next+if op=1 then 1 else 0:=by
 unfold Lv.one;by_cases h1:op=1
 ·simp only[h1,if_true];exact⟨trivial,trivial⟩
 ·simp only[h1,if_false];split
  ·exact⟨rfl,rfl⟩
  ·split
   ·exact⟨rfl,rfl⟩
   ·split
    ·exact⟨rfl,rfl⟩
    ·split <;> exact⟨rfl,rfl⟩
theorem St.low_v (d:Int)(fi:List UInt8→Int)(x:St)(w:Lv):(x.low d fi w).v=if x.op=1 then Qaj w.v x.name w.next else w.v:=by
 cases x with
 |mk op name args body els=>
  simp only[St.low,St.op,St.name];by_cases h6:op=6
  ·simp only[h6,if_true];rfl
  ·simp only[h6,if_false];by_cases h5:op=5
   ·simp only[h5,if_true];rfl
   ·simp only[h5,if_false];exact (Qbo2 w d fi op name args).1
theorem Qqw {op:Int}{name:List UInt8}{args:List Ex}{body els:List St}{dp:Int}(h:(St.mk op name args body els).form dp=true) :
  Qan body (dp-1)=true∧Qan els (dp-1)=true∧(op≠5→els=[])∧(op≠5→op≠6→body=[])∧args.length=argN op∧(∀a∈args,a.valid=true)∧(1≤op∧op≤8):=by
 simp only[St.form,Jb,Q7u,decide_eq_true_eq,Bool.or_eq_true,Jz]at h;obtain⟨⟨⟨_,⟨⟨⟨⟨⟨⟨h1,h2⟩,_⟩,_⟩,h3⟩,_⟩,h4⟩,h5⟩,h6⟩,h7⟩:=h;refine⟨h6,h7,fun h=>Jah.1 (by omega),fun h h'=>Jah.1 (by omega),h2,h3,h1⟩
mutual
theorem St.low_n {d:Int}{fi:List UInt8→Int}:∀(x:St) (dp:Int) (w:Lv),x.form dp=true→(x.low d fi w).next=w.next+x.lets
 |.mk op name args body els,dp,w,hf=>by
  obtain⟨f1,f2,f3,f4,_⟩:=Qqw hf;simp only[St.low,St.lets];by_cases h6:op=6
  ·subst h6;have:=f3 (by decide);subst this;simp only[if_true,Qu];rw[Q37 body _ _ f1];simp
  ·simp only[h6,if_false];by_cases h5:op=5
   ·subst h5;simp only[if_true];rw[Q37 els _ _ f2];simp only[];rw[Q37 body _ _ f1];simp;omega
   ·simp only[h5,if_false];have e1:=f3 h5;have e2:=f4 h5 h6;subst e1;subst e2;simp only[Qu];exact (Qbo2 w d fi op name args).2
theorem Q37 {d:Int}{fi:List UInt8→Int}:∀(l:List St) (dp:Int) (w:Lv),Qan l dp=true→(Qak d fi l w).next=w.next+Qu l
 |[],dp,w,_=>by simp[Qak,Qu]
 |x::r,dp,w,hf=>by
  simp only[Qan,Jb]at hf;simp only[Qak,Qu];rw[Q37 r dp _ hf.2,St.low_n x dp w hf.1];omega
end
theorem Qbtn {fns:List Fn}{k:Nat}{op:Int}{name:List UInt8}{args:List Ex}{v:Vars}{n:Nat}(h:(stC fns k op name args ⟨v,0,n⟩).c=0) :
  AllV v (Qac args)∧(op=2→(v.find name).isSome=true)∧stC fns k op name args ⟨v,0,n⟩=⟨if op=1 then Qaj v name n else v,0,n+if op=1 then 1 else 0⟩:=by
 have h2:Qbk fns k v (Qac args) 0=0:=by
  unfold stC at h;simp only at h;split at h
  ·exact (fst0_zero.1 h).1
  ·split at h
   ·exact (fst0_zero.1 h).1
   ·exact h
 obtain⟨_,h4⟩:=partsC_zero.1 h2;refine⟨fun e he ho=>?_,fun ho=>?_,?_⟩
 ·have:=h4 e he;rw[Qhi,if_pos ho]at this
  cases hs:(v.find e.name).isSome with
  |true=>rfl
  |false=>rw[hs]at this;simp at this
 ·unfold stC at h;simp only[ho]at h;have:=(fst0_zero.1 h).2
  cases hs:(v.find name).isSome with
  |true=>rfl
  |false=>rw[hs]at this;simp at this
 ·unfold stC at h⊢;simp only at h⊢;by_cases h1:op=1
  ·simp only[h1,if_true]at h⊢;rw[h]
  ·simp only[h1,if_false]at h⊢;by_cases h3:op=2
   ·simp only[h3,if_true]at h⊢;rw[h];rfl
   ·simp only[h3,if_false]at h⊢;rw[h];rfl
theorem VOk.st {v:Vars}{n:Nat}(h:VOk v n)(op:Int)(name:List UInt8):VOk (if op=1 then Qaj v name n else v) (n+if op=1 then 1 else 0):=by
 by_cases h1:op=1
 ·simp only[h1,if_true];exact h.put name
 ·simp only[h1,if_false];exact h
theorem Qbq8 (v:Vars)(n:Nat)(op:Int)(name:List UInt8):Qpv (if op=1 then Qaj v name n else v)=if op=1 then Qaj (Qpv v) (Qct n) n else Qpv v:=by
 by_cases h1:op=1
 ·simp only[h1,if_true];exact Qakg v name n
 ·simp only[h1,if_false]
theorem Qaav {fns:List Fn}{k:Nat}{op:Int}{name:List UInt8}{args:List Ex}{body els:List St}{v:Vars}{n:Nat}(h:((St.mk op name args body els).ck fns k ⟨v,0,n⟩).c=0) :
  AllV v (Qac args)∧(op=2→(v.find name).isSome=true)∧
  (Qau fns k body ⟨[]::(if op=1 then Qaj v name n else v),0,n+if op=1 then 1 else 0⟩).c=0∧
  (Qau fns k els ⟨[]::(if op=1 then Qaj v name n else v),0,(n+if op=1 then 1 else 0)+Qu body⟩).c=0∧
  (St.mk op name args body els).ck fns k ⟨v,0,n⟩=⟨if op=1 then Qaj v name n else v,0,n+(St.mk op name args body els).lets⟩:=by
 have hn:=St.ck_nr fns k (.mk op name args body els) ⟨v,0,n⟩;have hc:=h;simp only[St.ck]at h;have h1:=(Qdo els h).1;simp only at h1;have h2:=(Qdo body h1).1;simp only at h2;obtain⟨a1,a2,a3⟩:=Qbtn h2;rw[a3]at h h1;simp only at h h1;have hbn:=Qaki fns k body ⟨[]::(if op=1 then Qaj v name n else v),0,n+if op=1 then 1 else 0⟩;simp only at hbn;rw[h1,hbn]at h;refine⟨a1,a2,h1,h,?_⟩;have hv:((St.mk op name args body els).ck fns k ⟨v,0,n⟩).v=if op=1 then Qaj v name n else v:=by
  simp only[St.ck];rw[a3]
 generalize (St.mk op name args body els).ck fns k ⟨v,0,n⟩=R at *;obtain⟨rv,rc,rn⟩:=R;simp only at hv hc hn;rw[hv,hc,hn]
theorem Qakj {fns:List Fn}{k:Nat}{x:St}{r:List St}{v:Vars}{n:Nat}(h:(Qau fns k (x::r) ⟨v,0,n⟩).c=0) :
  (x.ck fns k ⟨v,0,n⟩).c=0∧(Qau fns k r ⟨if x.op=1 then Qaj v x.name n else v,0,n+x.lets⟩).c=0:=by
 simp only[Qau]at h;have h1:=(Qdo r h).1;refine⟨h1,?_⟩
 cases x with
 |mk op name args body els=>
  rw[(Qaav h1).2.2.2.2]at h;exact h
mutual
theorem St.low_ren {fns:List Fn}{k:Nat}{d d':Int}{fi:List UInt8→Int}:∀(x:St) (dp:Int) (v:Vars) (n:Nat) (s:Lw),x.form dp=true→(x.ck fns k ⟨v,0,n⟩).c=0→VOk v n→n+x.lets≤26→
  (x.ren ⟨v,n⟩).1.low d fi ⟨s,Qpv v,n⟩=⟨(x.low d' fi ⟨s,v,n⟩).s,Qpv (x.low d' fi ⟨s,v,n⟩).v,(x.low d' fi ⟨s,v,n⟩).next⟩
 |.mk op name args body els,dp,v,n,s,hf,hc,hv,hn=>by
  obtain⟨f1,f2,f3,f4,f5,_⟩:=Qqw hf;obtain⟨c1,c2,c3,c4,c5⟩:=Qaav hc;simp only[St.lets]at hn;have hv1:=hv.st op name;simp only[St.ren,St.low];by_cases h6:op=6
  ·subst h6;simp only[if_true,show ¬(6:Int)=1 by decide,show ¬(6:Int)=2 by decide,if_false,Jba]at *;have ea:(Qbz (Qdl v) args).take 1=Qbz (Qdl v) (args.take 1):=by rw[Qi0,Qi0,Jat]
   have hall:AllV v (Qac (args.take 1)):=by
    have:Qac args=Qac (args.take 1)++Qac (args.drop 1):=(by rw[←Qac6,Jx]);rw[this]at c1;exact c1.app.1
   rw[ea,Qqs (d':=d') hv (by omega) _ _ hall];have ih:=Qss (d:=d) (d':=d') (fi:=fi) body (dp-1) ([]::v) n ((Qab (Qa1 v d') fi (args.take 1) ((s.add 3).jump 1 0 [(s.bs.length:Int)] s.bs.length)).1.jump 2
    ((Qab (Qa1 v d') fi (args.take 1) ((s.add 3).jump 1 0 [(s.bs.length:Int)] s.bs.length)).2.getD 0 0) [(s.bs.length:Int)+1,(s.bs.length:Int)+2] (s.bs.length+1)) f1 c3 hv.push (by omega)
   have er:Qpv ([]::v)=[]::Qpv v:=rfl;rw[er]at ih;rw[ih]
  ·simp only[h6,if_false];by_cases h5:op=5
   ·subst h5;simp only[if_true,show ¬(5:Int)=1 by decide,show ¬(5:Int)=2 by decide,if_false,Jba]at *;rw[Qqs (d':=d') hv (by omega) _ _ c1];have er:Qpv ([]::v)=[]::Qpv v:=rfl;have ihb:=Qss (d:=d) (d':=d') (fi:=fi) body (dp-1) ([]::v) n
     (((Qab (Qa1 v d') fi args s).1.add 3).jump 2 ((Qab (Qa1 v d') fi args s).2.getD 0 0) [((Qab (Qa1 v d') fi args s).1.bs.length:Int),((Qab (Qa1 v d') fi args s).1.bs.length:Int)+1] (Qab (Qa1 v d') fi args s).1.bs.length) f1 c3 hv.push (by omega)
    rw[er]at ihb;rw[ihb];have hbn:=Q37 (d:=d') (fi:=fi) body (dp-1) ⟨((Qab (Qa1 v d') fi args s).1.add 3).jump 2 ((Qab (Qa1 v d') fi args s).2.getD 0 0) [((Qab (Qa1 v d') fi args s).1.bs.length:Int),((Qab (Qa1 v d') fi args s).1.bs.length:Int)+1] (Qab (Qa1 v d') fi args s).1.bs.length,[]::v,n⟩ f1;simp only at hbn;have hrn:(Qaw body ⟨[]::v,n⟩).2.n=n+Qu body:=Qnl body _;rw[hrn];simp only[hbn];have ihe:=fun s'=>Qss (d:=d) (d':=d') (fi:=fi) els (dp-1) ([]::v) (n+Qu body) s' f2 c4 (hv.push.mono (by omega)) (by omega);rw[er]at ihe;rw[ihe]
   ·simp only[h5,if_false];unfold Lv.one;simp only[];rw[Qqs (d':=d') hv (by omega) _ _ c1];by_cases h1:op=1
    ·subst h1;simp only[if_true,Qakg]
    ·simp only[h1,if_false];by_cases h2:op=2
     ·subst h2;simp only[if_true];obtain⟨r,hr⟩:=J0.1 (c2 rfl);have e1:Qdl v name=r:=(by simp[Qdl,hr]);simp only[e1,Qa1,hr,hv.find (by omega) hr]
     ·simp only[h2,if_false];split
      ·rfl
      ·split
       ·rfl
       ·split <;> rfl
theorem Qss {fns:List Fn}{k:Nat}{d d':Int}{fi:List UInt8→Int}:∀(l:List St) (dp:Int) (v:Vars) (n:Nat) (s:Lw),Qan l dp=true→(Qau fns k l ⟨v,0,n⟩).c=0→VOk v n→n+Qu l≤26→
  Qak d fi (Qaw l ⟨v,n⟩).1 ⟨s,Qpv v,n⟩=⟨(Qak d' fi l ⟨s,v,n⟩).s,Qpv (Qak d' fi l ⟨s,v,n⟩).v,(Qak d' fi l ⟨s,v,n⟩).next⟩
 |[],dp,v,n,s,_,_,_,_=>by simp[Qaw,Qak]
 |x::r,dp,v,n,s,hf,hc,hv,hn=>by
  simp only[Qan,Jb]at hf;simp only[Qu]at hn;obtain⟨c1,c2⟩:=Qakj hc;simp only[Qaw,Qak];have ih1:=St.low_ren (d:=d) (d':=d') (fi:=fi) x dp v n s hf.1 c1 hv (by omega);rw[ih1];have h2:(x.ren ⟨v,n⟩).2=⟨if x.op=1 then Qaj v x.name n else v,n+x.lets⟩:=St.ren_2 x _;have e1:=St.low_v d' fi x ⟨s,v,n⟩;have e2:=St.low_n (d:=d') (fi:=fi) x dp ⟨s,v,n⟩ hf.1;simp only at e1 e2;rw[h2,e1,e2];have hv1:VOk (if x.op=1 then Qaj v x.name n else v) (n+x.lets):=by
   refine (hv.st x.op x.name).mono ?_
   cases x with
   |mk op name args body els=>
    simp only[St.op,St.lets];by_cases h1:op=1
    ·simp only[h1,if_true];omega
    ·simp only[h1,if_false];omega
  have ih2:=Qss (d:=d) (d':=d') (fi:=fi) r dp _ (n+x.lets) (x.low d' fi ⟨s,v,n⟩).s hf.2 c2 hv1 (by omega);rw[ih2];have e3:x.low d' fi ⟨s,v,n⟩=⟨(x.low d' fi ⟨s,v,n⟩).s,if x.op=1 then Qaj v x.name n else v,n+x.lets⟩:=by
   generalize x.low d' fi ⟨s,v,n⟩=R at e1 e2⊢;obtain⟨r1,r2,r3⟩:=R;simp only at e1 e2;rw[e1,e2]
  rw[←e3]
end
mutual
theorem Ex.pre_ren (rg:List UInt8→Nat):∀(x:Ex),(x.ren rg).pre=x.pre.map (Ex.ren rg)
 |.mk op n name kids=>by
  rw[Ex.pre_eq,Ex.pre_eq (.mk op n name kids)];simp only[Jw,Ex.kids,Ex.ren];rw[Qac7 rg kids]
theorem Qac7 (rg:List UInt8→Nat):∀(l:List Ex),Qac (Qbz rg l)=(Qac l).map (Ex.ren rg)
 |[]=>by simp[Qbz,Qac]
 |x::r=>by simp only[Qbz,Qac,Jo];rw[Ex.pre_ren rg x,Qac7 rg r]
end
theorem Ex.ren_op (rg:List UInt8→Nat)(x:Ex):(x.ren rg).op=x.op∧(x.ren rg).kids.length=x.kids.length∧(¬x.op=2→(x.ren rg).name=x.name)∧(x.op=2→(x.ren rg).name=Qct (rg x.name)):=by
 cases x with
 |mk op n name kids=>
  simp only[Ex.ren,Ex.op,Ex.kids,Ex.name,Qac8];exact⟨trivial,trivial,fun h=>if_neg h,fun h=>if_pos h⟩
theorem Qbk7 (gns:List Fn)(m:Nat)(rg:List UInt8→Nat){x:Ex}(h:x.op=13):calC gns m (x.ren rg)=calC gns m x:=by
 obtain⟨_,h2,h3,_⟩:=x.ren_op rg;unfold calC;rw[h3 (by omega),h2]
theorem Qbil {gns:List Fn}{m:Nat}{v:Vars}{n:Nat}(hv:VOk v n)(hn:n≤26){l:List Ex}(h1:AllV v l)(h2:∀e∈l,e.op=13→calC gns m e=0):Qbk gns m (Qpv v) (l.map (Ex.ren (Qdl v))) 0=0:=by
 rw[partsC_zero];refine⟨rfl,fun e he=>?_⟩;obtain⟨x,hx,rfl⟩:=Jv.1 he;obtain⟨a1,a2,a3,a4⟩:=x.ren_op (Qdl v);by_cases h:x.op=13
 ·rw[Qawj (a1.trans h),Qbk7 _ _ _ h];exact h2 x hx h
 ·unfold Qhi;rw[a1];by_cases h5:x.op=2
  ·rw[if_pos h5,a4 h5];obtain⟨r,hr⟩:=J0.1 (h1 x hx h5);have e1:Qdl v x.name=r:=by simp[Qdl,hr]
   rw[e1,hv.find hn hr];rfl
  ·rw[if_neg h5,if_neg h]
mutual
theorem St.ck_ren {fns gns:List Fn}{k m:Nat}:∀(x:St) (dp:Int) (v:Vars) (n:Nat),x.form dp=true→(x.ck fns k ⟨v,0,n⟩).c=0→VOk v n→n+x.lets≤26→(∀e∈x.pre,e.op=13→calC gns m e=0)→
  (x.ren ⟨v,n⟩).1.ck gns m ⟨Qpv v,0,n⟩=⟨Qpv (if x.op=1 then Qaj v x.name n else v),0,n+x.lets⟩
 |.mk op name args body els,dp,v,n,hf,hc,hv,hn,hcl=>by
  obtain⟨f1,f2,f3,f4,f5,_⟩:=Qqw hf;obtain⟨c1,c2,c3,c4,c5⟩:=Qaav hc;simp only[St.lets]at hn;simp only[St.pre,Jf]at hcl;have hv1:=hv.st op name;have hn1:n≤26:=by omega
  have hp:Qbk gns m (Qpv v) (Qac (Qbz (Qdl v) args)) 0=0:=by
   rw[Qac7];exact Qbil hv hn1 c1 fun e he=>hcl e (.inl (.inl he))
  have hs:stC gns m op (if op=1 then Qct n else if op=2 then Qct (Qdl v name)else name) (Qbz (Qdl v) args) ⟨Qpv v,0,n⟩=⟨if op=1 then Qaj (Qpv v) (Qct n) n else Qpv v,0,n+if op=1 then 1 else 0⟩:=by
   unfold stC;simp only[hp];by_cases h1:op=1
   ·simp only[h1,if_true]at hn⊢;rw[hv.top (by omega)];rfl
   ·simp only[h1,if_false];by_cases h2:op=2
    ·simp only[h2,if_true];obtain⟨r,hr⟩:=J0.1 (c2 h2);have e1:Qdl v name=r:=(by simp[Qdl,hr]);rw[e1,hv.find hn1 hr];rfl
    ·simp only[h2,if_false];rfl
  have es:(if op=1 then (⟨Qaj v name n,n+1⟩:RnQ)else ⟨v,n⟩)=⟨if op=1 then Qaj v name n else v,n+if op=1 then 1 else 0⟩:=by
   by_cases h1:op=1
   ·simp only[h1,if_true]
   ·simp only[h1,if_false];rfl
  simp only[St.ren,St.ck,St.op,St.name,St.lets];rw[hs,es];simp only[];rw[←Qbq8 v n op name];have ihb:=Qacu (gns:=gns) (m:=m) body (dp-1) ([]::(if op=1 then Qaj v name n else v)) (n+if op=1 then 1 else 0) f1 c3 hv1.push (by omega) fun e he=>hcl e (.inl (.inr he));have er:∀w:Vars,Qpv ([]::w)=[]::Qpv w:=fun w=>rfl;rw[er]at ihb;have hbn:=Qnl body ⟨[]::(if op=1 then Qaj v name n else v),n+if op=1 then 1 else 0⟩;simp only at hbn;rw[hbn];have ihe:=Qacu (gns:=gns) (m:=m) els (dp-1) ([]::(if op=1 then Qaj v name n else v)) ((n+if op=1 then 1 else 0)+Qu body) f2 c4 (hv1.push.mono (by omega)) (by omega) fun e he=>hcl e (.inr he);rw[er]at ihe;rw[ihb.1,ihb.2,ihe.1,ihe.2];congr 1;by_cases h1:op=1
  ·simp only[h1,if_true];omega
  ·simp only[h1,if_false];omega
theorem Qacu {fns gns:List Fn}{k m:Nat}:∀(l:List St) (dp:Int) (v:Vars) (n:Nat),Qan l dp=true→(Qau fns k l ⟨v,0,n⟩).c=0→VOk v n→n+Qu l≤26→(∀e∈Q3k l,e.op=13→calC gns m e=0)→
  (Qau gns m (Qaw l ⟨v,n⟩).1 ⟨Qpv v,0,n⟩).c=0∧(Qau gns m (Qaw l ⟨v,n⟩).1 ⟨Qpv v,0,n⟩).n=n+Qu l
 |[],dp,v,n,_,_,_,_,_=>by simp[Qaw,Qau,Qu]
 |x::r,dp,v,n,hf,hc,hv,hn,hcl=>by
  simp only[Qan,Jb]at hf;simp only[Qu]at hn⊢;simp only[Q3k,Jf]at hcl;obtain⟨c1,c2⟩:=Qakj hc;simp only[Qaw,Qau];rw[St.ck_ren (gns:=gns) (m:=m) x dp v n hf.1 c1 hv (by omega) fun e he=>hcl e (.inl he),St.ren_2 x];have hv1:VOk (if x.op=1 then Qaj v x.name n else v) (n+x.lets):=by
   refine (hv.st x.op x.name).mono ?_
   cases x with
   |mk op name args body els=>
    simp only[St.op,St.lets];by_cases h1:op=1
    ·simp only[h1,if_true];omega
    ·simp only[h1,if_false];omega
  have ih:=Qacu (gns:=gns) (m:=m) r dp _ (n+x.lets) hf.2 c2 hv1 (by omega) fun e he=>hcl e (.inr he);exact⟨ih.1,by rw[ih.2];omega⟩
end
mutual
theorem St.form_ren {fns:List Fn}{k:Nat}:∀(x:St) (dp:Int) (v:Vars) (n:Nat),x.form dp=true→(x.ck fns k ⟨v,0,n⟩).c=0→VOk v n→n+x.lets≤26→
  (x.ren ⟨v,n⟩).1.form dp=true∧(x.ren ⟨v,n⟩).1.cnt=x.cnt∧(x.ren ⟨v,n⟩).1.lets=x.lets
 |.mk op name args body els,dp,v,n,hf,hc,hv,hn=>by
  obtain⟨f1,f2,f3,f4,f5,_⟩:=Qqw hf;obtain⟨c1,c2,c3,c4,c5⟩:=Qaav hc;simp only[St.lets]at hn;have hv1:=hv.st op name;have hn1:n≤26:=by omega
  have es:(if op=1 then (⟨Qaj v name n,n+1⟩:RnQ)else ⟨v,n⟩)=⟨if op=1 then Qaj v name n else v,n+if op=1 then 1 else 0⟩:=by
   by_cases h1:op=1
   ·simp only[h1,if_true]
   ·simp only[h1,if_false];rfl
  have hbn:=Qnl body ⟨[]::(if op=1 then Qaj v name n else v),n+if op=1 then 1 else 0⟩;simp only at hbn;obtain⟨b1,b2,b3⟩:=Qo3 body (dp-1) ([]::(if op=1 then Qaj v name n else v)) (n+if op=1 then 1 else 0) f1 c3 hv1.push (by omega);obtain⟨e1,e2,e3⟩:=Qo3 els (dp-1) ([]::(if op=1 then Qaj v name n else v)) ((n+if op=1 then 1 else 0)+Qu body) f2 c4 (hv1.push.mono (by omega)) (by omega);simp only[St.ren,St.form,St.cnt,St.lets];rw[es];simp only[];rw[hbn];refine⟨?_,by rw[b2,e2],by rw[b3,e3]⟩;simp only[Jb];simp only[St.form,Jb]at hf;refine⟨⟨⟨hf.1.1.1,?_⟩,b1⟩,e1⟩;rw[Qafw,Qafw];have h0:=hf.1.1.2;have hops:(Qbz (Qdl v) args).map Ex.op=args.map Ex.op:=by
   rw[Qi0,Ja8];exact Jar fun x _=>(x.ren_op (Qdl v)).1
  have hval:(Qbz (Qdl v) args).all Ex.valid=true:=by
   rw[Qi0,Jz];intro y hy;obtain⟨x,hx,rfl⟩:=Jv.1 hy;simp only[Q7u,Jb,Jz]at h0;exact Ex.valid_ren (Qbbd hv hn1) (h0.1.1.1.2 x hx)
  simp only[Q7u,Jb,hops,hval,Qac8]at h0⊢;refine⟨⟨⟨⟨⟨⟨h0.1.1.1.1.1.1,?_⟩,?_⟩,trivial⟩,h0.1.1.2⟩,h0.1.2⟩,h0.2⟩
  ·by_cases h1:op=1
   ·have hh:=Q4a (show n<26 by simp only[h1,if_true]at hn;omega);simp[h1,hh]
   ·by_cases h2:op=2
    ·have hh:=Q4a (Qbbd hv hn1 name);simp[h2,hh]
    ·rw[if_neg h1,if_neg h2];exact h0.1.1.1.1.1.2
  ·by_cases h1:op=1
   ·simp[h1]
   ·by_cases h2:op=2
    ·simp[h2]
    ·rw[if_neg h1,if_neg h2];exact h0.1.1.1.1.2
theorem Qo3 {fns:List Fn}{k:Nat}:∀(l:List St) (dp:Int) (v:Vars) (n:Nat),Qan l dp=true→(Qau fns k l ⟨v,0,n⟩).c=0→VOk v n→n+Qu l≤26→
  Qan (Qaw l ⟨v,n⟩).1 dp=true∧Qby (Qaw l ⟨v,n⟩).1=Qby l∧Qu (Qaw l ⟨v,n⟩).1=Qu l
 |[],dp,v,n,_,_,_,_=>by simp[Qaw,Qan]
 |x::r,dp,v,n,hf,hc,hv,hn=>by
  simp only[Qan,Jb]at hf;simp only[Qu]at hn;obtain⟨c1,c2⟩:=Qakj hc;obtain⟨a1,a2,a3⟩:=St.form_ren x dp v n hf.1 c1 hv (by omega);have hv1:VOk (if x.op=1 then Qaj v x.name n else v) (n+x.lets):=by
   refine (hv.st x.op x.name).mono ?_
   cases x with
   |mk op name args body els=>
    simp only[St.op,St.lets];by_cases h1:op=1
    ·simp only[h1,if_true];omega
    ·simp only[h1,if_false];omega
  obtain⟨b1,b2,b3⟩:=Qo3 r dp _ (n+x.lets) hf.2 c2 hv1 (by omega);simp only[Qaw,Qan,Qby,Qu,Jb];rw[St.ren_2 x];exact⟨⟨a1,b1⟩,by rw[a2,b2],by rw[a3,b3]⟩
end
def parW (ps:List (List UInt8))(v:Vars)(n:Nat):Vars×Nat:=ps.foldl (fun s p=>(Qaj s.1 p s.2,s.2+1)) (v,n)
theorem Qbik:∀(ps:List (List UInt8)) (v:Vars) (n:Nat),VOk v n→VOk (parW ps v n).1 (parW ps v n).2∧(parW ps v n).2=n+ps.length
 |[],v,n,h=>⟨h,rfl⟩
 |p::r,v,n,h=>by
  obtain⟨h1,h2⟩:=Qbik r _ _ (h.put p);refine⟨h1,?_⟩;have:parW (p::r) v n=parW r (Qaj v p n) (n+1):=rfl;rw[this,h2,Jn];omega
theorem Qbih:∀(ps:List (List UInt8)) (v:Vars) (n:Nat),(Qq5 ps ⟨v,0,n⟩).c=0→Qq5 ps ⟨v,0,n⟩=⟨(parW ps v n).1,0,(parW ps v n).2⟩
 |[],v,n,h=>rfl
 |p::r,v,n,h=>by
  have e:Qq5 (p::r) ⟨v,0,n⟩=Qq5 r ⟨Qaj v p n,Qc4 0 (if Qfv v p then 2 else 0),n+1⟩:=rfl;rw[e]at h⊢;have h0:=Qa2e h;simp only at h0;rw[h0]at h⊢;exact Qbih r _ _ h
theorem Qayr:∀(ps:List (List UInt8)) (v:Vars) (n:Nat),VOk v n→n+ps.length≤26→
  Qpv (parW ps v n).1=(parW ((List.range' n ps.length).map Qct) (Qpv v) n).1∧Qq5 ((List.range' n ps.length).map Qct) ⟨Qpv v,0,n⟩=⟨Qpv (parW ps v n).1,0,n+ps.length⟩
 |[],v,n,h,hn=>⟨rfl,rfl⟩
 |p::r,v,n,h,hn=>by
  simp only[Jn]at hn;obtain⟨h1,h2⟩:=Qayr r _ _ (h.put p) (by omega);have e1:parW (p::r) v n=parW r (Qaj v p n) (n+1):=rfl;rw[Jn,List.range'_succ,Jw,e1];refine⟨?_,?_⟩
  ·rw[h1,Qakg];rfl
  ·have e2:Qq5 (Qct n::(List.range' (n+1) r.length).map Qct) ⟨Qpv v,0,n⟩=Qq5 ((List.range' (n+1) r.length).map Qct) ⟨Qaj (Qpv v) (Qct n) n,Qc4 0 (if Qfv (Qpv v) (Qct n)then 2 else 0),n+1⟩:=rfl;rw[e2,h.top (by omega),←Qakg];have:Qc4 0 (if (false:Bool)=true then (2:Int)else 0)=0:=rfl;rw[this,h2];congr 1;omega
theorem Qa5p (n:Nat):Qp5 n=(List.range' 0 n).map Qct:=by rw[Qp5,List.range_eq_range']
theorem vok0:VOk [[]] 0:=⟨by simp,by simp⟩
theorem FineP.fn {fns:List Fn}(h:FineP fns){k:Nat}(hk:k<fns.length) :
  Qq5 fns[k].params ⟨[[]],0,0⟩=⟨(Qyu fns[k].params).1,0,fns[k].params.length⟩∧VOk (Qyu fns[k].params).1 fns[k].params.length∧(Qau fns k fns[k].body ⟨(Qyu fns[k].params).1,0,fns[k].params.length⟩).c=0∧
   fns[k].params.all Qdb=true∧Qdb fns[k].name=true∧fns[k].params.length≤3∧Qan fns[k].body 4=true:=by
 have hc:=h.c k hk;have h1:=Qbih _ _ _ (Qdo _ hc).1;obtain⟨h2,h3⟩:=Qbik fns[k].params [[]] 0 vok0;rw[Ju]at h3;rw[h3]at h1 h2;have hv:=h.v;simp only[Qqf,Jb,decide_eq_true_eq,Jz]at hv;have hf:=hv.1.2 _ (Je hk);simp only[Fn.form,Jb,decide_eq_true_eq]at hf;refine⟨h1,h2,?_,hf.1.1.1,hf.1.1.2,hf.1.2,hf.2⟩;rw[h1]at hc;exact hc
def few (fns:List Fn):Prop:=∀f∈fns,f.params.length+Qu f.body≤26
theorem Qay0 {fns:List Fn}(h:FineP fns)(hw:few fns){k:Nat}(hk:k<fns.length) :
  Qpv (Qyu fns[k].params).1=(Qyu fns[k].ren.params).1∧fns[k].ren.params.length=fns[k].params.length:=by
 obtain⟨a1,a2,a3,_⟩:=h.fn hk;have hf:=hw _ (Je hk);have:=(Qayr fns[k].params [[]] 0 vok0 (by omega)).1;refine⟨?_,by simp[Fn.ren,Qp5]⟩;show Qpv (parW fns[k].params [[]] 0).1=(parW (Qp5 fns[k].params.length) [[]] 0).1;rw[Qa5p];exact this
theorem Qaxu (fns:List Fn)(s:List UInt8):Qk7 (fns.map Fn.ren) s=Qk7 fns s:=by
 rw[Qk7,Qk7,List.findIdx?_map];rfl
theorem Qbgo {fns:List Fn}(h:∀f∈fns,Qby f.ren.body=Qby f.body):Qes (fns.map Fn.ren)=Qes fns:=by
 induction fns with
 |nil=>rfl
 |cons f r ih=>
  simp only[Jw,Qes];rw[h f J5,ih fun g hg=>h g (J3 _ hg)]
theorem Qbnb {fns:List Fn}(h:FineP fns)(hw:few fns):FineP (fns.map Fn.ren):=by
 have hall:∀k (hk:k<fns.length),Qan fns[k].ren.body 4=true∧Qby fns[k].ren.body=Qby fns[k].body∧Qu fns[k].ren.body=Qu fns[k].body:=fun k hk=>by
  obtain⟨a1,a2,a3,a4,a5,a6,a7⟩:=h.fn hk;exact Qo3 _ _ _ _ a7 a3 a2 (hw _ (Je hk))
 have hv:=h.v;simp only[Qqf,Jb,decide_eq_true_eq,Jz]at hv;refine⟨?_,fun k hk=>?_,fun k hk=>?_⟩
 ·simp only[Qqf,Jb,decide_eq_true_eq,Jz];refine⟨⟨by simpa using hv.1.1,fun f hf=>?_⟩,?_⟩
  ·obtain⟨g,hg,rfl⟩:=Jv.1 hf;obtain⟨k,hk,rfl⟩:=Jaa hg;obtain⟨a1,a2,a3,a4,a5,a6,a7⟩:=h.fn hk;simp only[Fn.form,Jb,decide_eq_true_eq,Jz];refine⟨⟨⟨fun s hs=>?_,a5⟩,by rw[(Qay0 h hw hk).2];exact a6⟩,(hall k hk).1⟩;simp only[Fn.ren,Qp5,Jv,List.mem_range]at hs;obtain⟨i,hi,rfl⟩:=hs;exact Q4a (by omega)
  ·rw[Qbgo fun f hf=>by obtain⟨k,hk,rfl⟩:=Jaa hf;exact (hall k hk).2.1];exact hv.2
 ·have hk':k<fns.length:=by simpa using hk
  rw[Jay];obtain⟨a1,a2,a3,a4,a5,a6,a7⟩:=h.fn hk';have hf:=hw _ (Je hk');have hp:Qq5 fns[k].ren.params ⟨[[]],0,0⟩=⟨Qpv (Qyu fns[k].params).1,0,fns[k].params.length⟩:=by
   have:=(Qayr fns[k].params [[]] 0 vok0 (by omega)).2;rw[Ju]at this;show Qq5 (Qp5 fns[k].params.length) ⟨[[]],0,0⟩=_;rw[Qa5p];exact this
  rw[hp];refine (Qacu (fns:=fns) (k:=k) _ _ _ _ a7 a3 a2 hf fun e he ho=>?_).1;have h0:=(Qdo _ a3).2 e he ho;rw[←h0];unfold calC;rw[←Jat,Qaxu]
  cases hx:Qk7 (fns.take k) e.name with
  |none=>rfl
  |some j=>
   obtain⟨hj,_⟩:=Qx8 hx;rw[Jaj]at hj;have hjl:j<fns.length:=by omega
   simp only[Jaf,Jt hjl,Ja6,Jak];rw[(Qay0 h hw hjl).2]
 ·have hk':k<fns.length:=by simpa using hk
  rw[Jay,Qaxu];exact h.ix k hk'
theorem Qbq9 {fns:List Fn}(h:FineP fns)(hw:few fns)(d d':Int):Qbd d (fns.map Fn.ren)=Qbd d' fns:=by
 rw[Qbd,Qbd,Ja8];refine Jar fun f hf=>?_;obtain⟨k,hk,rfl⟩:=Jaa hf;obtain⟨a1,a2,a3,a4,a5,a6,a7⟩:=h.fn hk;have hfw:=hw _ (Je hk);obtain⟨r1,r2⟩:=Qay0 h hw hk;have hl:Qu fns[k].ren.body=Qu fns[k].body:=(Qo3 _ _ _ _ a7 a3 a2 hfw).2.2;have hfi:Qce (fns.map Fn.ren)=Qce fns:=by funext s;rw[Qce,Qce,Qaxu]
 show Qo6 d (fns.map Fn.ren) fns[k].ren=Qo6 d' fns fns[k];unfold Qo6;simp only[hfi,r2,←r1,hl];have:=Qss (d:=d) (d':=d') (fi:=Qce fns) fns[k].body 4 (Qyu fns[k].params).1 fns[k].params.length ⟨(fns[k].params.length:Int)+Qu fns[k].body,[blk0],0⟩ a7 a3 a2 hfw;have e:fns[k].ren.body=(Qaw fns[k].body ⟨(Qyu fns[k].params).1,fns[k].params.length⟩).1:=rfl;rw[e,this]
def Lw.ok (s:Lw):Prop:=s.at_<s.bs.length
theorem Lw.put_len (s:Lw)(op to n:Int)(args:List Int):(s.put op to n args).bs.length=s.bs.length:=by simp[Lw.put]
theorem Lw.add_len (s:Lw)(n:Nat):(s.add n).bs.length=s.bs.length+n:=by simp[Lw.add]
open Go.Proofs.Tryz
variable {F H:Heap}{w:Nat}{s:LS}{K:V→Heap→Prop}
def intB (l:List (List C)):List Int:=l.map fun r=>match r with
 |[.int _ n]=>n
 |_=>0
theorem Qbqf (l:List Int):intB (Q0 l)=l:=by
 induction l with
 |nil=>rfl
 |cons x r ih=>exact congrArg (x::·) ih
def rowI (r:List C):InsD:=match r with
 |[.int _ op,.int _ to,.sl _ _ a,.int _ n]=>⟨op,to,intB a,n⟩
 |_=>⟨0,0,[],0⟩
theorem Qa6u (op to n:Int)(fl:Bool)(args:List Int):rowI [.int .i64 op,.int .i64 to,.sl fl 1 (Q0 args),.int .i64 n]=⟨op,to,args,n⟩:=by simp only[rowI,Qbqf]
def Blk.d (b:Blk):BlkD:=⟨[],b.irows.map rowI,b.jump,b.on,b.next⟩
def LS.d (s:LS):Lw:=⟨s.regs,s.blocks.map Blk.d,s.at_⟩
theorem LS.dlen (s:LS):s.blocks.length=s.d.bs.length:=by simp[LS.d]
structure LTo (s:LS)(l:Lw)(rows:List (List C))(n:Int):Prop where
 d:s.d=l
 vars:s.vars=rows
 next:s.next=n
theorem LTo.refl (s:LS):LTo s s.d s.vars s.next:=⟨rfl,rfl,rfl⟩
theorem Q35 {α β:Type}(f:α→β)(g:β→β)(l:List α)(i:Nat)(x:α)(h:∀hi:i<l.length,f x=g (f l[i])):(l.set i x).map f=(l.map f).modify i g:=by
 refine List.ext_getElem? fun j=>?_;rw[Jaf,List.getElem?_set,List.getElem?_modify,Jaf];by_cases e:i=j
 ·subst e;by_cases hi:i<l.length
  ·simp[hi,h hi]
  ·simp[hi,List.getElem?_eq_none (Nat.le_of_not_lt hi)]
 ·simp[e]
theorem LInv.addInsX {K:V→Heap→Prop}{y i:Nat}{fl:Bool}{r:List C}(h:LInv F H w s)(hi:i<s.blocks.length)(hbc:s.bc=.vsl y 5 0 s.blocks.length)(hlb:s.lb=[(y,.vec 5 (s.blocks.map Blk.row))])
  (hr:InsRow r) (hl:s.blocks[i].irows.length+1≤LIM)
  (hK:∀(z:Nat) (H1:Heap),H1 w=s.o→H1 y=.vec 5 (s.blocks.map Blk.row)→
   (∀H2,H2=H1.set y (.vec 5 ((s.blocks.map Blk.row).set i (Blk.row { s.blocks[i]with ic:=.vsl z 4 0 (s.blocks[i].irows.length+1) })))→
    ∃b':Blk,b'.irows.length=s.blocks[i].irows.length+1∧b'.d={ s.blocks[i].d with ins:=s.blocks[i].d.ins++[rowI r] }∧LInv F H2 w { s with lb:=[(y,.vec 5 ((s.blocks.set i b').map Blk.row))],blocks:=s.blocks.set i b' })→K (.c (.vsl z 4 0 (s.blocks[i].irows.length+1))) H1) :
  appQ H 4 s.blocks[i].ic (.sl fl 4 [r]) K:=by
 have hm:=Je hi;have kn:=h.kn;simp only[LS.L]at kn;have kn:Kn F H [] (([(w,s.o)]++(s.lb++(s.lv++(s.blocks.eraseIdx i).flatMap Blk.lg)))++s.blocks[i].lg):=kn.perm (by
  have h1:(s.blocks.flatMap Blk.lg).Perm ((s.blocks.eraseIdx i).flatMap Blk.lg++s.blocks[i].lg):=(Qak4 Blk.lg s.blocks i hi).trans Jk;refine ((h1.append_left _).append_left _ |>.append_left _).trans ?_;simp only[Js];exact .refl _)
 refine kn.grow (h.gi _ hm) (.mk' _ _ _ _) (by intro r' hr';simp only[Ja]at hr';subst hr';exact hr.noOw) (by simpa using hl) fun z H1 kn=>?_;have e1:s.blocks[i].irows.length+[r].length=s.blocks[i].irows.length+1:=by simp
 rw[e1];simp only[hlb]at kn;refine hK z H1 (kn.l 0 rfl) (kn.l 1 rfl) fun H2 h2=>?_;refine⟨{ s.blocks[i]with ic:=.vsl z 4 0 (s.blocks[i].irows.length+1),irows:=s.blocks[i].irows++[r],lg:=[(z,.vec 4 (s.blocks[i].irows++[r]))] },by simp,by simp[Blk.d],?_⟩;have hrow:Blk.row { s.blocks[i]with ic:=.vsl z 4 0 (s.blocks[i].irows.length+1) }=Blk.row { s.blocks[i]with ic:=.vsl z 4 0 (s.blocks[i].irows.length+1),irows:=s.blocks[i].irows++[r],lg:=[(z,.vec 4 (s.blocks[i].irows++[r]))] }:=rfl;rw[hrow,Qtf]at h2;refine⟨?_,?_,h.gv,fun b hb=>?_,fun b hb=>?_,h.rv⟩
 ·have kn:=kn.stL 1 (x:=y) rfl h2;refine kn.perm ?_;simp only[LS.L];have h1:=(Qakb Blk.lg s.blocks i { s.blocks[i]with ic:=.vsl z 4 0 (s.blocks[i].irows.length+1),irows:=s.blocks[i].irows++[r],lg:=[(z,.vec 4 (s.blocks[i].irows++[r]))] } hi).symm;have h3:=(Jk.trans h1).append_left ([(w,s.o)]++([(y,Obj.vec 5 ((s.blocks.set i { s.blocks[i]with ic:=.vsl z 4 0 (s.blocks[i].irows.length+1),irows:=s.blocks[i].irows++[r],lg:=[(z,.vec 4 (s.blocks[i].irows++[r]))] }).map Blk.row))]++s.lv));refine List.Perm.trans ?_ (h3.trans ?_)
  ·simp only[List.set,Jj,Jm,Js];exact .refl _
  ·simp only[Jj,Jm];exact .refl _
 ·simp only[hbc];exact .mk _ _ _ (by simp)
 ·rcases Qb0 hb with rfl|hb
  ·exact .mk _ _ _ (by simp)
  ·exact h.gi b hb
 ·rcases Qb0 hb with rfl|hb
  ·intro r' hr';rcases Jf.1 hr' with hr'|hr'
   ·exact h.ri _ hm r' hr'
   ·simp at hr';subst hr';exact hr
  ·exact h.ri b hb
theorem Qyg {N:Nat}(h:LInv F H w s)(hok:s.ok N)(hN:N+1≤2^38)(hK:∀(s':LS) (H':Heap),LInv F H' w s'→LStep s s' 1→LTo s' s.d.fresh s.vars s.next→K (.c (.int .i64 s.regs)) H') :
  Qj prog Qbh [.c (.ptr w 0)] H K:=by
 have hw:=h.hw;have h0:=hok.r0;have h1:=hok.r1;refine Qb Qad Qayn ?_;refine Qa ?_;simp only[go_sem];refine Qa ?_;simp only[go_sem,hw,LS.o];refine⟨Qm (by omega) (by omega),fun H1 h1'=>?_⟩;have h':LInv F H1 w { s with regs:=s.regs+1 }:=h.setw h1' rfl rfl rfl rfl h.gv h.rv;have hw1:=h'.hw;refine Qa ?_;simp only[go_sem,hw1,LS.o];refine⟨Qm (by omega) (by omega),?_⟩;refine Qi ?_;simp only[go_sem,Qq,Q7,Qfh,Ja,forall_eq,RS.op];refine hK _ H1 h' ⟨Jl _,fun M hM=>⟨?_,?_,hM.n0,?_,?_,?_,?_⟩,Jl _,fun h=>h,rfl,rfl,rfl⟩ ⟨rfl,rfl,rfl⟩
 ·have:=hM.r0;show 0≤s.regs+1;omega
 ·have:=hM.r1;show s.regs+1≤_;omega
 ·have:=hM.n1;show s.next≤_;omega
 ·have:=hM.b1;show s.blocks.length≤_;omega
 ·intro b hb;have:=hM.i1 b hb;omega
 ·have:=hM.v1;show s.vars.length≤_;omega
theorem Qjj {N:Nat}(h:LInv F H w s)(hok:s.ok N)(hN:N+1≤2^38)(hK:∀(s':LS) (H':Heap),LInv F H' w s'→LStep s s' 1→s.blocks.length<s'.blocks.length→LTo s' (s.d.add 1) s.vars s.next→K (.c (.int .i64 s.blocks.length)) H') :
  Qj prog Qa3 [.c (.ptr w 0)] H K:=by
 have hw:=h.hw;have hb1:=hok.b1;have hbow:=h.gb.isOw;refine Qb Qad Qaym ?_;refine Qa ?_;simp only[go_sem];refine Qa ?_;simp only[go_sem,hw,LS.o,hbow];refine h.addBlk (b:=⟨.sl true 4 [],[],[],0,0,true,[]⟩) (by simp only[LIM];omega) rfl rfl rfl fun y H1 hw1 cont=>?_;simp only[go_sem,Qv3,hw1,LS.o];intro H2 h2;have h':=cont H2 h2;have hw2:=h'.hw;obtain⟨y2,hv1,hv2,hv3⟩:=h'.bvec (by simp);simp only[C.vsl.injEq]at hv1;obtain⟨rfl,_⟩:=hv1;refine Qa ?_;simp only[go_sem,hw2,LS.o,hv3,Jy,Jas];refine⟨by omega,fun hl=>⟨Qm (by omega) (by omega),?_⟩⟩;refine Qi ?_;simp only[go_sem,Qq,Q7,Qfh,Ja,forall_eq,RS.op];have e1:(((s.blocks.length+1:Nat):Int)-1)=s.blocks.length:=by omega
 rw[e1];refine hK _ H2 h' ⟨by simp,fun M hM=>⟨hM.r0,?_,hM.n0,?_,?_,?_,?_⟩,Jl _,fun ha=>by simp;show s.at_<_;omega,rfl,rfl,rfl⟩ (by simp) ⟨by simp[LS.d,Lw.add,Blk.d,blk0],rfl,rfl⟩
 ·have:=hM.r1;show s.regs≤_;omega
 ·have:=hM.n1;show s.next≤_;omega
 ·have:=hM.b1;simp;omega
 ·intro b hb;rcases Jf.1 hb with hb|hb
  ·have:=hM.i1 b hb;omega
  ·simp at hb;subst hb;simp
 ·have:=hM.v1;show s.vars.length≤_;omega
theorem Qady {N:Nat}{op to n:Int}{fl:Bool}{args:List Int}(h:LInv F H w s)(hat:s.at_<s.blocks.length)(hok:s.ok N)(hN:N+1≤2^38)
  (hK:∀(s':LS) (H':Heap),LInv F H' w s'→LStep s s' 1→LTo s' (s.d.put op to n args) s.vars s.next→K (.c (.int .i64 to)) H') :
  Qj prog Qa2 [.c (.ptr w 0),.c (.int .i64 op),.c (.int .i64 to),.c (.int .i64 n),.c (.sl fl 1 (Q0 args))] H K:=by
 have hw:=h.hw;obtain⟨y,hbc,hlb,hy⟩:=h.bvec (by omega);have hm:=Je hat;have hi1:=hok.i1 _ hm;have hiow:=(h.gi _ hm).isOw;have hg1:List.getD (List.map Blk.row s.blocks) s.at_ []=s.blocks[s.at_].row:=by simp[Jc,hat]
 have hg2:List.getD (List.take s.blocks.length (List.map Blk.row s.blocks)) s.at_ []=s.blocks[s.at_].row:=by
  rw[Jd (by simp)];exact hg1
 refine Qb Qad Qa6m ?_;refine Qa ?_;simp only[go_sem];refine Qaf ?_;simp only[go_sem,hw,LS.o,hbc,hy,hat,Ju,Jy];refine Qa ?_;simp only[go_sem,hy,hat,hg2,Blk.row,hiow,Ju,Jy];refine h.addInsX hat hbc hlb ⟨op,to,n,fl,args,rfl⟩ (by simp only[LIM];omega) fun z H1 hw1 hy1 cont=>?_;simp only[go_sem,Q7s,hy1,hg1,hat,Blk.row,Ju,Jy];intro H2 h2;obtain⟨b',hb',hbd,h'⟩:=cont H2 h2;refine Qa ?_;simp only[go_sem];refine Qi ?_;simp only[go_sem,Qq,Q7,Qamf,Ja,forall_eq,RS.op];refine hK _ H2 h' ⟨by simp,fun M hM=>⟨hM.r0,?_,hM.n0,?_,?_,?_,?_⟩,Jl _,fun ha=>by simp;show s.at_<_;omega,rfl,rfl,rfl⟩ ⟨by
  simp only[LS.d,Lw.put];rw[Q35 Blk.d (fun b=>{ b with ins:=b.ins++[⟨op,to,args,n⟩] }) _ _ _ fun _=>by rw[hbd,Qa6u]],rfl,rfl⟩
 ·have:=hM.r1;show s.regs≤_;omega
 ·have:=hM.n1;show s.next≤_;omega
 ·have:=hM.b1;simp;omega
 ·intro b hb;rcases Qb0 hb with rfl|hb
  ·have:=hM.i1 _ hm;omega
  ·have:=hM.i1 b hb;omega
 ·have:=hM.v1;show s.vars.length≤_;omega
theorem Q6s {N:Nat}{kind on:Int}{at':Nat}{fl:Bool}{next:List Int}(h:LInv F H w s)(hat:s.at_<s.blocks.length)(hat':at'<s.blocks.length)
  (hK:∀(s':LS) (H':Heap),LInv F H' w s'→LStep s s' 0→LTo s' (s.d.jump kind on next at') s.vars s.next→K (.tup []) H') :
  Qj prog Qba [.c (.ptr w 0),.c (.int .i64 kind),.c (.int .i64 on),.c (.sl fl 1 (Q0 next)),.c (.int .i64 at')] H K:=by
 have hw:=h.hw;obtain⟨y,hbc,hlb,hy⟩:=h.bvec (by omega);have hm:=Je hat;have hg1:List.getD (List.map Blk.row s.blocks) s.at_ []=s.blocks[s.at_].row:=by simp[Jc,hat]
 refine Qb Qad Qa17 ?_;refine Qaf ?_;simp only[go_sem,hw,LS.o,hbc,hy,hat,Ju,Jy];refine Qa ?_;simp only[go_sem,hy,hg1,hat,Blk.row,Ju,Jy];intro H1 h1;have h1:H1=H.set y (.vec 5 ((s.blocks.set s.at_ { s.blocks[s.at_]with jump:=kind }).map Blk.row)):=by rw[h1,←Qtf];rfl
 have hv:=h.setBlk hat hbc hlb h1 rfl rfl rfl;obtain⟨b1,hb1,hb1l,hb1i⟩:∃b1:Blk,b1={ s.blocks[s.at_]with jump:=kind }∧b1.irows=s.blocks[s.at_].irows∧b1.ic=s.blocks[s.at_].ic:=⟨_,rfl,rfl,rfl⟩;rw[←hb1]at hv h1;have hy1:H1 y=.vec 5 ((s.blocks.set s.at_ b1).map Blk.row):=by rw[h1];exact Heap.set_same _ _ _
 have hg2:List.getD ((s.blocks.set s.at_ b1).map Blk.row) s.at_ []=b1.row:=by simp[Jc,hat]
 refine Qa ?_;simp only[go_sem,hy1,hg2,hat,Blk.row,Ju,Jy,Ja2];intro H2 h2;have h2:H2=H1.set y (.vec 5 (((s.blocks.set s.at_ b1).set s.at_ { b1 with on:=on }).map Blk.row)):=by rw[h2];simp only[Jax];rfl
 have hv:=hv.setBlk (i:=s.at_) (b':={ b1 with on:=on }) (by simpa using hat) (by simpa using hbc) (by rfl) h2 (by simp) (by simp) (by simp);simp only[Ja9]at hv h2;obtain⟨b2,hb2,hb2i⟩:∃b2:Blk,b2={ b1 with on:=on }∧b2.irows=b1.irows:=⟨_,rfl,rfl⟩;rw[←hb2]at hv h2;have hy2:H2 y=.vec 5 ((s.blocks.set s.at_ b2).map Blk.row):=by rw[h2];exact Heap.set_same _ _ _
 have hg3:List.getD ((s.blocks.set s.at_ b2).map Blk.row) s.at_ []=b2.row:=by simp[Jc,hat]
 refine Qa ?_;simp only[go_sem,hy2,hg3,hat,Blk.row,Ju,Jy,Ja2];intro H3 h3;have h3:H3=H2.set y (.vec 5 (((s.blocks.set s.at_ b2).set s.at_ { b2 with next:=next,nfl:=fl }).map Blk.row)):=by rw[h3];simp only[Jax];rfl
 have hv:=hv.setBlk (i:=s.at_) (b':={ b2 with next:=next,nfl:=fl }) (by simpa using hat) (by simpa using hbc) (by rfl) h3 (by simp) (by simp) (by simp);simp only[Ja9]at hv;have hw3:=hv.hw;refine Qp ?_;simp only[go_sem,hw3,LS.o];intro H4 h4;have h':=hv.setw (s':={ s with lb:=[(y,.vec 5 ((s.blocks.set s.at_ { b2 with next:=next,nfl:=fl }).map Blk.row))],blocks:=s.blocks.set s.at_ { b2 with next:=next,nfl:=fl },at_:=at' }) h4 rfl rfl rfl rfl hv.gv hv.rv;simp only[Qq,Q7,Qtn];refine⟨by simp,hK _ H4 h' ⟨by simp,fun M hM=>⟨hM.r0,hM.r1,hM.n0,hM.n1,?_,?_,hM.v1⟩,Jl _,fun ha=>by simpa using hat',rfl,rfl,rfl⟩ ⟨by
  simp only[LS.d,Lw.jump];rw[Q35 Blk.d (fun b=>{ b with jump:=kind,on:=on,next:=next }) _ _ _ fun _=>by rw[hb2,hb1];rfl],rfl,rfl⟩⟩
 ·have:=hM.b1;simpa using this
 ·intro b hb;rcases Qb0 hb with rfl|hb
  ·show b2.irows.length≤_;rw[hb2i,hb1l];exact hM.i1 _ hm
  ·exact hM.i1 b hb
end Go.AE.Y
namespace Go.AE.Y
open Go.Proofs.Tryz
variable {H:Heap}{K:V→Heap→Prop}
theorem Qbcp {b:UInt8}(hK:∀n:Int,decide (n=1)=Qde b→K (.c (.int .i64 n)) H):Qj prog Q3s [.c (.int .u8 b.toNat)] H K:=by
 refine Qb Qad Qa1v ?_;have hs:(bif decide ((97:Int)≤(b.toNat:Int))then decide ((b.toNat:Int)≤122)else false)=Qde b:=by
  unfold Qde;by_cases h:97≤b.toNat
  ·have h':(97:Int)≤(b.toNat:Int):=by omega
   simp only[h',decide_true,cond_true,h,true_and,decide_eq_decide];omega
  ·have h':¬(97:Int)≤(b.toNat:Int):=by omega
   simp[h',h]
 have ret:∀(n:Int) (e:Env),decide (n=1)=Qde b→lk 2 e=.c (.int .i64 n)→Qq Qfh K .ret e H:=by
  intro n e h1 h2;simp only[go_sem,Qq,Q7,Qfh,Ja,forall_eq,RS.op,h2];exact hK n h1
 refine Qa ?_;simp only[go_sem];refine Qg (Qe ?_);refine Qa ?_;simp only[go_sem];refine Qc rfl ?_ ?_
 ·intro hc;rw[hs]at hc;refine Qa ?_;simp only[go_sem];refine Qi ?_;simp only[go_sem];exact ret 1 _ (by rw[hc];rfl) (by simp[lk])
 intro hc;rw[hs]at hc;refine Qa ?_;simp only[go_sem];refine Qc rfl ?_ ?_
 ·intro _;refine Qa ?_;simp only[go_sem];refine Qi ?_;simp only[go_sem];exact ret 2 _ (by rw[hc];rfl) (by simp[lk])
 intro _;refine Qa ?_;simp only[go_sem];refine Qa1h fun n=>?_;simp only[go_sem,Q02];refine Qc rfl ?_ ?_
 ·intro _;refine Qa ?_;simp only[go_sem];refine Qi ?_;simp only[go_sem];exact ret 3 _ (by rw[hc];rfl) (by simp[lk])
 intro _;refine Qa ?_;simp only[go_sem];refine Qc rfl ?_ ?_
 ·intro _;refine Qa ?_;simp only[go_sem];refine Qi ?_;simp only[go_sem];exact ret 4 _ (by rw[hc];rfl) (by simp[lk])
 intro _;refine Qf ?_;simp only[go_sem];refine Qa ?_;simp only[go_sem];refine Qi ?_;exact ret 0 _ (by rw[hc];rfl) (by simp[lk])
theorem Qdy {α:Type}{p:α→Bool}{l:List α}{i:Nat}(h:i<l.length):(l.take (i+1)).all p=((l.take i).all p&&p l[i]):=by
 rw[Ji h,List.all_append];simp
theorem Qg1 {α:Type}{p:α→Bool}{l:List α}{i:Nat}(h:i<l.length)(hp:p l[i]=false):l.all p=false:=by
 rw[List.all_eq_false];exact⟨l[i],Je h,by rw[hp];simp⟩
theorem Qbmg {s:List UInt8}(hK:K (.c (.bool (s.all Qde&&decide (0<s.length)))) H):Qj prog Qakc [.c (.str s),.c (.int .i64 1)] H K:=by
 refine Qb Qad Qbh2 ?_;have retf:∀(b:Bool) (e:Env),(s.all Qde&&decide (0<s.length))=b→lk 4 e=.c (.bool b)→Qq Qpr K .ret e H:=by
  intro b e h1 h3;simp only[go_sem,Qq,Q7,Qpr,Ja,forall_eq,RS.op,h3];rw[←h1];exact hK
 refine Qa ?_;simp only[go_sem];refine Q5 ?_;refine Qa ?_;simp only[go_sem];refine Qg (Qe (Q2 (fun n e1 H1=>∃i:Nat,n=s.length-i∧i≤s.length∧H1=H∧(s.take i).all Qde=true∧e1=[(0,.c (.str s)),(1,.c (.int .i64 1)),(5,.c (.int .i64 i))]) s.length ?_ ?_))
 ·exact⟨0,by omega,by omega,rfl,rfl,rfl⟩
 ·rintro n e1 H1 ⟨i,hn,hi,rfl,hall,rfl⟩;refine Q5 ?_;refine Qa ?_;simp only[go_sem];intro hl;simp only[LIM]at hl;refine Qg (Qc rfl ?_ ?_)
  ·intro hc;have hlt:i<s.length:=by simpa using hc
   have hg:s.getD i 0=s[i]:=by simp[Jc,hlt]
   refine Qf ?_;simp only[go_sem];refine Qg (Qe ?_);refine Qa ?_;simp only[go_sem,hlt,hg];refine Qbcp fun cl hcl=>?_;simp only[go_sem,Qaet];refine Qc rfl ?_ ?_
   ·intro hc2;have hf:Qde s[i]=false:=by
     rw[←hcl]
     cases hd:decide (cl=1)with
     |false=>rfl
     |true=>rw[hd]at hc2;simp at hc2
    refine Qa ?_;simp only[go_sem];refine Qi ?_;simp only[go_sem,X.next];exact retf false _ (by rw[Qg1 hlt hf];rfl) (by simp[lk])
   ·intro hc2;have hf:Qde s[i]=true:=by
     rw[←hcl]
     cases hd:decide (cl=1)with
     |true=>rfl
     |false=>rw[hd]at hc2;simp at hc2
    refine Qf ?_;simp only[go_sem];refine Qp ?_;simp only[go_sem,X.next];exact⟨Qm (by omega) (by omega),s.length-(i+1),by omega,i+1,rfl,by omega,by rw[Qdy hlt,hall,hf];rfl,rfl⟩
  ·intro hc;have hge:s.length≤i:=by simpa using hc
   rw[Jd hge]at hall;refine Q1 ?_;simp only[go_sem,X.next];refine Qa ?_;simp only[go_sem];intro _;refine Qi ?_;exact retf (decide ((0:Int)<(s.length:Int))) _ (by rw[hall,Jr,decide_eq_decide];omega) (by simp[lk])
theorem Qa5t (hK:K (.c (.sl true 1 (Q9 keysL))) H):Qj prog Qjo [] H K:=by
 refine Qb Qad Qabh ?_;refine Qa ?_;simp only[go_sem];refine Qa ?_;simp only[go_sem];refine Qi ?_;simp only[go_sem,Qq,Q7,Qtq,Ja,forall_eq,RS.op];exact hK
theorem Qbk5 {α:Type}{p:α→Bool}{l:List α}{i:Nat}(h:i<l.length):(l.take (i+1)).any p=((l.take i).any p || p l[i]):=by
 rw[Ji h,List.any_append];simp
theorem Qa05 {l:List (List UInt8)}{s:List UInt8}:l.contains s=l.any fun x=>decide (x=s):=by
 rw[J4,Jal,Jai];constructor
 ·intro h;exact⟨s,h,by simp⟩
 ·rintro⟨x,hx,h⟩;have:x=s:=by simpa using h
  rw[←this];exact hx
theorem Qbmh {s:List UInt8}(hK:K (.c (.bool (keysL.contains s))) H):Qj prog Qakd [.c (.str s)] H K:=by
 refine Qb Qad Qbh3 ?_;rw[Qa05]at hK;generalize hks:keysL=ss at *;have retf:∀(b:Bool) (e:Env),(ss.any fun x=>decide (x=s))=b→lk 2 e=.c (.bool b)→Qq Qfh K .ret e H:=by
  intro b e h1 h3;simp only[go_sem,Qq,Q7,Qfh,Ja,forall_eq,RS.op,h3];rw[←h1];exact hK
 refine Qa ?_;simp only[go_sem];refine Qa ?_;simp only[go_sem];refine Qa5t ?_;rw[hks];simp only[go_sem,Qaeu];refine Q5 ?_;refine Qa ?_;simp only[go_sem];refine Qg (Qe (Q2 (fun n e1 H1=>∃i:Nat,n=ss.length-i∧i≤ss.length∧H1=H∧((ss.take i).any fun x=>decide (x=s))=false∧e1=[(0,.c (.str s)),(3,.c (.sl true 1 (Q9 ss))),(4,.c (.int .i64 i))]) ss.length ?_ ?_))
 ·exact⟨0,by omega,by omega,rfl,rfl,rfl⟩
 ·rintro n e1 H1 ⟨i,hn,hi,rfl,hall,rfl⟩;refine Q5 ?_;refine Qa ?_;simp only[go_sem,Qo];intro hl;simp only[LIM]at hl;refine Qg (Qc rfl ?_ ?_)
  ·intro hc;have hlt:i<ss.length:=by simpa using hc
   have hg:ss.getD i []=ss[i]:=by simp[Jc,hlt]
   refine Qf ?_;simp only[go_sem];refine Qg (Qe ?_);refine Qa ?_;simp only[go_sem,hlt,Qo,Qbs _ _ hlt,hg];refine Qc rfl ?_ ?_
   ·intro hc2;refine Qa ?_;simp only[go_sem];refine Qi ?_;simp only[go_sem,X.next];exact retf true _ (Jai.2 ⟨ss[i],Je hlt,hc2⟩) (by simp[lk])
   ·intro hc2;refine Qf ?_;simp only[go_sem];refine Qp ?_;simp only[go_sem,X.next];exact⟨Qm (by omega) (by omega),ss.length-(i+1),by omega,i+1,rfl,by omega,by rw[Qbk5 hlt,hall,hc2];rfl,rfl⟩
  ·intro hc;have hge:ss.length≤i:=by simpa using hc
   rw[Jd hge]at hall;refine Q1 ?_;simp only[go_sem,X.next];refine Qa ?_;simp only[go_sem];refine Qi ?_;exact retf false _ hall (by simp[lk])
theorem Qaau {s:List UInt8}(hK:K (.c (.bool (Qdb s))) H):Qj prog Qeg [.c (.str s)] H K:=by
 refine Qb Qad Qals ?_;refine Qa ?_;simp only[go_sem];refine Qa ?_;simp only[go_sem];refine Qbmg ?_;simp only[go_sem,Qqr];intro hl;have hle:decide ((s.length:Int)≤4)=decide (s.length≤4):=by rw[decide_eq_decide];omega
 have e0:Qdb s=((s.all Qde&&decide (0<s.length))&&decide (s.length≤4)&&!keysL.contains s):=by
  unfold Qdb;have:decide (1≤s.length∧s.length≤4)=(decide (0<s.length)&&decide (s.length≤4)):=by
   rw[J4];simp only[decide_eq_true_eq,Jb];omega
  rw[this];cases s.all Qde <;> cases decide (0<s.length) <;> cases decide (s.length≤4) <;> rfl
 have e1:(bif (s.all Qde&&decide (0<s.length))then decide ((s.length:Int)≤4)else false)=((s.all Qde&&decide (0<s.length))&&decide (s.length≤4)):=by
  rw[hle];cases (s.all Qde&&decide (0<s.length)) <;> rfl
 refine⟨fun hb=>?_,fun hb=>?_⟩
 ·refine Qbmh ?_;simp only[go_sem,Qfp];refine Qi ?_;simp only[go_sem,Qq,Q7,Qfh,Ja,forall_eq,RS.op];have:(bif (bif (s.all Qde&&decide (0<s.length))then decide ((s.length:Int)≤4)else false)then !keysL.contains s else false)=Qdb s:=by
   rw[e1,e0];cases ((s.all Qde&&decide (0<s.length))&&decide (s.length≤4)) <;> rfl
  first|(rw[this];exact hK)|(rw[e0,←e1,hb];exact hK)
 ·simp only[go_sem,Qfp,hb];refine Qi ?_;simp only[go_sem,Qq,Q7,Qfh,Ja,forall_eq,RS.op];have hf:Qdb s=false:=by
   rw[e0,←e1];have hb':=hb
   first|(rw[hb'];rfl)|(simp at hb';simp[hb'])
  rw[hf]at hK;exact hK
theorem Qbhn {op:Int}(hK:K (.tup [.c (.int .i64 (Qfd op)),.c (.int .i64 (Qfc op))]) H):Qj prog Qaax [.c (.int .i64 op)] H K:=by
 refine Qb Qad Qba8 ?_;refine Qa ?_;simp only[go_sem];refine Q5 ?_;refine Qa ?_;simp only[go_sem];have ret:∀(a b:Int) (e:Env),Qfd op=a→Qfc op=b→lk 2 e=.c (.int .i64 a)→lk 3 e=.c (.int .i64 b)→Qq Qnf K .ret e H:=by
  intro a b e h1 h2 h3 h4;simp only[go_sem,Qq,Q7,Qnf,Jan,RS.op,h3,h4];rw[h1,h2]at hK;exact hK
 refine Qg (Qe ?_);refine Q5 ?_;refine Qa ?_;simp only[go_sem];have r5:∀(b:Bool),b=decide (op=1∨op=2)→Q8 prog Qaew (X.inBlock 0 (X.sq prog Qsa (Qq Qnf K))) [(4,.c (.int .i64 op)),(5,.c (.bool b))] H:=by
  intro b hb;refine Qc rfl ?_ ?_
  ·intro hc;rw[hb,decide_eq_true_eq]at hc;refine Qa ?_;simp only[go_sem];refine Qi ?_;simp only[go_sem];exact ret 0 0 _ (by rw[Qfd,if_pos (by omega)]) (by rw[Qfc,if_pos hc]) (by simp[lk]) (by simp[lk])
  intro hc;rw[hb,decide_eq_false_iff_not]at hc;refine Q5 ?_;refine Qa ?_;simp only[go_sem];have r8:∀(b:Bool),b=decide (op=11∨op=12)→Q8 prog Qaev (X.inBlock 0 (X.sq prog Qsa (Qq Qnf K))) [(4,.c (.int .i64 op)),(8,.c (.bool b))] H:=by
   intro b hb2;refine Qc rfl ?_ ?_
   ·intro hc2;rw[hb2,decide_eq_true_eq]at hc2;refine Qa ?_;simp only[go_sem];refine Qi ?_;simp only[go_sem];exact ret 1 1 _ (by rw[Qfd,if_neg (by omega),if_pos hc2]) (by rw[Qfc,if_neg hc,if_pos hc2]) (by simp[lk]) (by simp[lk])
   intro hc2;rw[hb2,decide_eq_false_iff_not]at hc2;refine Qa ?_;simp only[go_sem];refine Qc rfl ?_ ?_
   ·intro hc3;have hc3:op=13:=(by simpa using hc3);refine Qa ?_;simp only[go_sem];refine Qi ?_;simp only[go_sem];exact ret 0 3 _ (by rw[Qfd,if_pos (by omega)]) (by rw[Qfc,if_neg hc,if_neg hc2,if_pos hc3]) (by simp[lk]) (by simp[lk])
   ·intro hc3;have hc3:¬op=13:=(by simpa using hc3);refine Qf ?_;simp only[go_sem];refine Qa ?_;simp only[go_sem];refine Qi ?_;exact ret 2 2 _ (by rw[Qfd,if_neg (by omega),if_neg hc2]) (by rw[Qfc,if_neg hc,if_neg hc2,if_neg hc3]) (by simp[lk]) (by simp[lk])
  refine Qg (Qc rfl ?_ ?_)
  ·intro hc2;have h11:op=11:=by simpa using hc2
   refine Qf ?_;simp only[go_sem];exact r8 _ (by rw[hc2];symm;rw[decide_eq_true_eq];exact .inl h11)
  ·intro hc2;have h11:¬op=11:=by simpa using hc2
   refine Qp ?_;simp only[go_sem];exact r8 _ (by rw[decide_eq_decide];omega)
 refine Qg (Qc rfl ?_ ?_)
 ·intro hc;have h1:op=1:=by simpa using hc
  refine Qf ?_;simp only[go_sem];exact r5 _ (by rw[hc];symm;rw[decide_eq_true_eq];exact .inl h1)
 ·intro hc;have h1:¬op=1:=by simpa using hc
  refine Qp ?_;simp only[go_sem];exact r5 _ (by rw[decide_eq_decide];omega)
def exA (op:Int)(k:Nat)(d:Int):Bool:=decide (1≤d)&&decide (1≤op∧op≤13)&&decide (Qfd op≤(k:Int)∧(k:Int)≤Qfc op)
def exB (op n:Int)(name:List UInt8):Bool:=(decide (op=2∨op=13) == Qdb name)&&(decide (op=2∨op=13) || decide (name=[]))&&decide (0≤n∧n≤255)&&(decide (op=1) || decide (n=0))
theorem Qbp8 (x:Ex)(d:Int):x.form d=(exA x.op x.kids.length d&&(exB x.op x.n x.name&&x.kids.all fun y=>y.form (d-1))):=by
 rw[x.form_eq,Qakv,exA,exB,Qakw];simp only[J7]
theorem Qlf (a b:Bool):(bif a then true else b)=(a || b):=by cases a <;> rfl
theorem Qey (a b:Bool):(bif a then b else false)=(a&&b):=by cases a <;> rfl
theorem Qbb8 {a b:Int}:decide (a<b) = !decide (b≤a):=by
 rw[J4];simp only[decide_eq_true_eq,J6,decide_eq_false_iff_not];omega
theorem Qbhm:∀(n:Nat) (x:Ex) {H:Heap} {K:V→Heap→Prop} (deep:Int),x.size≤n→deep≤100→K (.c (.bool (x.form deep))) H→Qj prog Qyb [.ag x.cells,.c (.int .i64 deep)] H K:=by
 intro n
 induction n with
 |zero=>intro x _ _ _ h;have:=x.size_pos;omega
 |succ n ih=>
 intro x H K deep hn hd hK;rw[Qbp8]at hK;have hsz:=x.size_kids;refine Qb Qad Qba7 ?_;refine Qa ?_;simp only[go_sem,x.cells_eq];refine Qa ?_;simp only[go_sem];refine Qbhn ?_;simp only[go_sem,Q9n,Jaq,Jap];refine Q5 ?_;refine Qa ?_;simp only[go_sem];have retf:∀(b:Bool) (e:Env),(exA x.op x.kids.length deep&&(exB x.op x.n x.name&&x.kids.all fun y=>y.form (deep-1)))=b→lk 4 e=.c (.bool b)→Qq Qpr K .ret e H:=by
  intro b e h0 h1;simp only[go_sem,Qq,Q7,Qpr,Ja,forall_eq,RS.op,h1];rw[←h0];exact hK
 have rest:∀b:Bool,b = !exA x.op x.kids.length deep→Q8 prog (s_l2Form_3.seq Q9m) (Qq Qpr K)
   [(1,.c (.int .i64 deep)),(2,.c (.pp [.int .i64 x.op,.int .i64 x.n,.str x.name,.sl false 4 (Qw x.kids)])),(31,.c (.bool b))] H:=by
  intro b hb;refine Qg (Qc rfl ?_ ?_)
  ·intro hc;refine Qa ?_;simp only[go_sem];refine Qi ?_;simp only[go_sem];have hA:exA x.op x.kids.length deep=false:=by rw[hc]at hb;simpa using hb.symm
   exact retf false _ (by rw[hA];rfl) (by simp[lk])
  intro hc;have hA:exA x.op x.kids.length deep=true:=by rw[hc]at hb;simpa using hb.symm
  have hdp:1≤deep:=by
   have:=hA;simp only[exA,Jb,decide_eq_true_eq]at this;exact this.1.1
  rw[hA,Jr]at retf;refine Qf ?_;simp only[go_sem];refine Qa ?_;simp only[go_sem];refine Q5 ?_;refine Qa ?_;simp only[go_sem];refine Qaau ?_;simp only[go_sem,Q9o];have rest2:∀b:Bool,b = !exB x.op x.n x.name→Q8 prog (s_l2Form_6.seq Q9l) (Qq Qpr K)
    [(1,.c (.int .i64 deep)),(2,.c (.pp [.int .i64 x.op,.int .i64 x.n,.str x.name,.sl false 4 (Qw x.kids)])),(69,.c (.bool b))] H:=by
   intro b hb;refine Qg (Qc rfl ?_ ?_)
   ·intro hc;have hB:exB x.op x.n x.name=false:=(by rw[hc]at hb;simpa using hb.symm);refine Qa ?_;simp only[go_sem];refine Qi ?_;simp only[go_sem];exact retf false _ (by rw[hB];rfl) (by simp[lk])
   intro hc;have hB:exB x.op x.n x.name=true:=by rw[hc]at hb;simpa using hb.symm
   rw[hB,Jr]at retf;refine Qf ?_;simp only[go_sem];refine Q5 ?_;refine Qa ?_;simp only[go_sem];refine Qg (Qe (Q2 (fun n e1 H1=>∃i:Nat,n=x.kids.length-i∧i≤x.kids.length∧H1=H∧((x.kids.take i).all fun y=>y.form (deep-1))=true∧e1=[(1,.c (.int .i64 deep)),(2,.c (.pp [.int .i64 x.op,.int .i64 x.n,.str x.name,.sl false 4 (Qw x.kids)])),(8,.c (.int .i64 i))]) x.kids.length ?_ ?_))
   ·exact⟨0,by omega,by omega,rfl,rfl,rfl⟩
   ·rintro n e1 H1 ⟨i,hn,hi,rfl,hall,rfl⟩;refine Q5 ?_;refine Qa ?_;simp only[go_sem,Ql];intro hl;simp only[LIM]at hl;refine Qg (Qc rfl ?_ ?_)
    ·intro hc;have hlt:i<x.kids.length:=(by simpa using hc);have hm:=Qar (Je hlt);refine Qf ?_;simp only[go_sem];refine Qg (Qe ?_);refine Qa ?_;simp only[go_sem,hlt,Ql,Qaq _ _ hlt,Ex.take4,Ex.allOw,Ex.cells_len];refine⟨Qm (by omega) (by omega),?_⟩;refine ih _ (deep-1) (by omega) (by omega) ?_;simp only[go_sem,Q9p];refine Qc rfl ?_ ?_
     ·intro hc2;refine Qa ?_;simp only[go_sem];refine Qi ?_;simp only[go_sem,X.next];exact retf false _ (Qg1 hlt (Qk9 hc2)) (by simp[lk])
     ·intro hc2;refine Qf ?_;simp only[go_sem];refine Qp ?_;simp only[go_sem,X.next];exact⟨Qm (by omega) (by omega),x.kids.length-(i+1),by omega,i+1,rfl,by omega,by rw[Qdy hlt,hall,Qeh hc2];rfl,rfl⟩
    ·intro hc;have hge:x.kids.length≤i:=(by simpa using hc);rw[Jd hge]at hall;refine Q1 ?_;simp only[go_sem,X.next];refine Qa ?_;simp only[go_sem];refine Qi ?_;exact retf true _ hall (by simp[lk])
  refine⟨fun hb1=>?_,fun hb1=>?_⟩
  ·refine Qd2 ?_;simp only[go_sem,Qoy];refine rest2 _ ?_;simp only[Qlf,Qey,exB];by_cases h1:x.op=1 <;> by_cases h2:x.op=2 <;> by_cases h3:x.op=13 <;> cases Qdb x.name <;> by_cases h4:x.name=[] <;> by_cases h5:(0≤x.n∧x.n≤255) <;> by_cases h6:x.n=0 <;> simp[h1,h2,h3,h4,h5,h6]
  ·replace hb1:=Qeh hb1;simp only[go_sem,Qoy,hb1];refine rest2 _ ?_;simp only[Qlf,Qey,exB]at hb1⊢;revert hb1;by_cases h1:x.op=1 <;> by_cases h2:x.op=2 <;> by_cases h3:x.op=13 <;> cases Qdb x.name <;> by_cases h4:x.name=[] <;> by_cases h5:(0≤x.n∧x.n≤255) <;> by_cases h6:x.n=0 <;> simp[h1,h2,h3,h4,h5,h6]
 refine⟨fun hb1=>?_,fun hb1=>?_⟩
 ·replace hb1:=Qk9 hb1;have hdp:1≤deep:=by simp at hb1;omega
  refine Qd2 ?_;simp only[go_sem,Qox,hb1,Ql,cond_false];intro hl;refine⟨fun hb2=>?_,fun hb2=>?_⟩
  ·refine Qd2 ?_;simp only[go_sem,Qfz];refine rest _ ?_;simp only[Qlf,exA];have hd1:decide (1≤deep)=true:=decide_eq_true hdp;rw[hd1];cases decide (1≤x.op∧x.op≤13) <;> cases decide (Qfd x.op≤(x.kids.length:Int)∧(x.kids.length:Int)≤Qfc x.op) <;> rfl
  ·replace hb2:=Qeh hb2;simp only[go_sem,Qfz,hb2];refine rest _ ?_;have hop:decide (1≤x.op∧x.op≤13)=false:=by
    cases h:decide (1≤x.op∧x.op≤13)with
    |false=>rfl
    |true=>rw[h]at hb2;simp at hb2
   simp only[exA,hop,Ja7,Jad,Jae]
 ·replace hb1:=Qeh hb1;simp only[go_sem,Qox,Qfz,hb1,Ql,cond_true];refine rest _ ?_;have hdp:decide (1≤deep)=false:=by
   rw[decide_eq_false_iff_not];simp at hb1;omega
  simp only[exA,hdp,Jad,Jae]
theorem Qa0w {x:Ex}(hx:x.size≤2^40)(hK:K (.c (.bool x.valid)) H):Qj prog Qhd [.ag x.cells] H K:=by
 refine Qb Qad Q6t ?_;refine Qa ?_;simp only[go_sem,Ex.ne_nil];refine Qa ?_;simp only[go_sem,Ex.take4,Ex.allOw,Ex.cells_len];refine Qbhm x.size x 6 (Jl _) (by omega) ?_;simp only[go_sem,Qjd,Ex.take4,Ex.allOw,Ex.cells_len];have e:decide ((x.size:Int)≤30)=decide (x.size≤30):=by rw[decide_eq_decide];omega
 refine⟨fun hb=>?_,fun hb=>?_⟩
 ·refine Qa1g x.size x (Jl _) hx ?_;simp only[go_sem,Qc8];refine Qi ?_;simp only[go_sem,Qq,Q7,Qfh,Ja,forall_eq,RS.op];rw[Ex.valid,hb]at hK
  first|(rw[e];exact hK)|(rw[hb,e];exact hK)|(simp only[hb,e,cond_true];exact hK)
 ·simp only[go_sem,Qc8,hb];refine Qi ?_;simp only[go_sem,Qq,Q7,Qfh,Ja,forall_eq,RS.op];rw[Ex.valid,hb]at hK;exact hK
mutual
theorem St.cnt_le:∀(x:St),x.cnt≤x.size
 |.mk op name args body els=>by
  have h1:=Q3i body;have h2:=Q3i els;simp only[St.cnt,St.size];omega
theorem Q3i:∀(l:List St),Qby l≤Qh l
 |[]=>by simp[Qby]
 |x::r=>by
  have h1:=St.cnt_le x;have h2:=Q3i r;simp only[Qby,Qh];omega
end
theorem Qbf5 (l:List St):Qby l=l.length+(l.map fun x=>Qby x.body+Qby x.els).sum:=by
 induction l with
 |nil=>simp[Qby]
 |cons x r ih=>simp only[Qby,Jn,Jw,List.sum_cons,ih,x.cnt_eq];omega
def inC (l:List St):Nat:=(l.map fun x=>Qby x.body+Qby x.els).sum
theorem Qbl4 {l:List St}{i:Nat}(h:i<l.length):inC (l.take (i+1))=inC (l.take i)+(Qby (l[i]'h).body+Qby (l[i]'h).els):=by
 rw[inC,inC,Ji h,Jo,Ja4];simp
theorem Qbsm (l:List St)(i:Nat):inC (l.take i)≤inC l:=by
 have:inC l=inC (l.take i)+inC (l.drop i):=by rw[inC,inC,inC,←Ja4,←Jo,Jx]
 omega
theorem Qbcq:∀(n:Nat) (l:List St) {fl:Bool} {H:Heap} {K:V→Heap→Prop},Qh l≤n→Qh l≤2^40→K (.c (.int .i64 (Qby l))) H→Qj prog Qnn [.c (.sl fl 5 (Qk l))] H K:=by
 intro n
 induction n using Nat.strongRecOn with
 |ind n ih=>
 intro l fl H K hn hb hK;have hlen:=Qcd l;have htot:=Qbf5 l;have hcl:=Q3i l;change Qby l=l.length+inC l at htot;refine Qb Qad Qa1x ?_;refine Qa ?_;simp only[go_sem];refine Qa ?_;simp only[go_sem,Qv];intro hl;refine Q5 ?_;refine Qa ?_;simp only[go_sem];refine Qg (Qe (Q2 (fun n e1 H1=>∃(i:Nat),n=l.length-i∧i≤l.length∧H1=H∧e1=[(0,.c (.sl fl 5 (Qk l))),(3,.c (.int .i64 ((l.length+inC (l.take i):Nat):Int))),(4,.c (.int .i64 i))]) l.length ?_ ?_))
 ·exact⟨0,by omega,by omega,rfl,rfl⟩
 ·rintro n e1 H1 ⟨i,hn1,hi,rfl,rfl⟩;refine Q5 ?_;refine Qa ?_;simp only[go_sem,Qv];simp only[LIM]at hl;refine fun _=>?_;refine Qg (Qc rfl ?_ ?_)
  ·intro hc;have hlt:i<l.length:=by simpa using hc
   have hm:=Qbl (Je hlt);have hse:=(l[i]'hlt).size_eq;have hit:=Qbl4 hlt;have hil:=Qbsm l (i+1);refine Qf ?_;simp only[go_sem];refine Qg (Qe (Qe8 ?_));simp only[go_sem,hlt,Qv,Qbg _ _ hlt,St.cells_eq];refine ih (Qh l[i].body) (by omega) l[i].body (Jl _) (by omega) ?_;simp only[go_sem,Q04,hlt,Qv,Qbg _ _ hlt,St.cells_eq];refine⟨Qm (by omega) (by omega),?_⟩;refine ih (Qh l[i].els) (by omega) l[i].els (Jl _) (by omega) ?_;simp only[go_sem,Q03];refine⟨Qm (by omega) (by omega),?_⟩;refine Qp ?_;simp only[go_sem,X.next];refine⟨Qm (by omega) (by omega),l.length-(i+1),by omega,i+1,rfl,by omega,?_⟩;rw[hit];simp;omega
  ·intro hc;have hge:l.length≤i:=by simpa using hc
   refine Q1 ?_;simp only[go_sem,X.next];refine Qa ?_;simp only[go_sem];refine Qi ?_;simp only[go_sem,Qq,Q7,Qfh,Ja,forall_eq,RS.op];rw[Jd hge,←htot];exact hK
def stA (op:Int)(k:Nat)(d:Int):Bool:=decide (1≤d)&&decide (1≤op∧op≤8)&&decide (k=argN op)
def stB (op:Int)(name:List UInt8):Bool:=(decide (op=1∨op=2) == Qdb name)&&(decide (op=1∨op=2) || decide (name=[]))
def stD (op:Int)(nb ne:Nat):Bool:=(decide (op=5) || decide (ne=0))&&(decide (op=5∨op=6) || decide (nb=0))
theorem Qbu4 (x:St)(d:Int):x.form d=(stA x.op x.args.length d&&(stB x.op x.name&&(x.args.all Ex.valid&&((!decide (x.op=8) || decide ((x.args.map Ex.op).getD 0 0=13))&&(stD x.op x.body.length x.els.length&&(Qan x.body (d-1)&&Qan x.els (d-1))))))):=by
 rw[x.form_eq,Q7u,stA,stB,stD];simp only[J7]
def Qbr3 (n:Nat):Prop:=∀(x:St) (deep:Int) (H:Heap) (K:V→Heap→Prop),x.size≤n→x.size≤2^40→deep≤100→K (.c (.bool (x.form deep))) H→Qj prog Qaaz [.ag x.cells,.c (.int .i64 deep)] H K
def Qbgg (n:Nat):Prop:=∀(l:List St) (deep:Int) (fl:Bool) (H:Heap) (K:V→Heap→Prop),Qh l≤n→Qh l≤2^40→deep≤100→K (.c (.bool (Qan l deep))) H→Qj prog Qno [.c (.sl fl 5 (Qk l)),.c (.int .i64 deep)] H K
theorem Qbko {n:Nat}(hS:Qbr3 n):Qbgg n:=by
 intro l deep fl H K hn hb hd hK;rw[Qaas]at hK;refine Qb Qad Qa12 ?_;have retf:∀(b:Bool) (e:Env),(l.all fun x=>x.form deep)=b→lk 4 e=.c (.bool b)→Qq Qpr K .ret e H:=by
  intro b e h0 h1;simp only[go_sem,Qq,Q7,Qpr,Ja,forall_eq,RS.op,h1];rw[←h0];exact hK
 refine Qa ?_;simp only[go_sem];refine Q5 ?_;refine Qa ?_;simp only[go_sem];refine Qg (Qe (Q2 (fun n e1 H1=>∃(i:Nat),n=l.length-i∧i≤l.length∧H1=H∧((l.take i).all fun x=>x.form deep)=true∧e1=[(0,.c (.sl fl 5 (Qk l))),(1,.c (.int .i64 deep)),(5,.c (.int .i64 i))]) l.length ?_ ?_))
 ·exact⟨0,by omega,by omega,rfl,rfl,rfl⟩
 ·rintro n e1 H1 ⟨i,hn1,hi,rfl,hall,rfl⟩;refine Q5 ?_;refine Qa ?_;simp only[go_sem,Qv];intro hl;simp only[LIM]at hl;refine Qg (Qc rfl ?_ ?_)
  ·intro hc;have hlt:i<l.length:=by simpa using hc
   have hm:=Qbl (Je hlt);refine Qf ?_;simp only[go_sem];refine Qg (Qe ?_);refine Qa ?_;simp only[go_sem,hlt,Qv,Qbg _ _ hlt,St.take5,St.allOw,St.cells_len];refine hS _ deep _ _ (by omega) (by omega) hd ?_;simp only[go_sem,Q11];refine Qc rfl ?_ ?_
   ·intro hc2;refine Qa ?_;simp only[go_sem];refine Qi ?_;simp only[go_sem,X.next];exact retf false _ (Qg1 hlt (Qk9 hc2)) (by simp[lk])
   ·intro hc2;refine Qf ?_;simp only[go_sem];refine Qp ?_;simp only[go_sem,X.next];exact⟨Qm (by omega) (by omega),l.length-(i+1),by omega,i+1,rfl,by omega,by rw[Qdy hlt,hall,Qeh hc2];rfl,rfl⟩
  ·intro hc;have hge:l.length≤i:=by simpa using hc
   rw[Jd hge]at hall;refine Q1 ?_;simp only[go_sem,X.next];refine Qa ?_;simp only[go_sem];refine Qi ?_;exact retf true _ hall (by simp[lk])
theorem Qboh {n:Nat}(hS:∀m,m<n→Qbgg m):Qbr3 n:=by
 intro x deep H K hn hb hd hK;rw[Qbu4]at hK;have hsz:=x.size_eq;refine Qb Qad Qbba ?_;have retf:∀(b:Bool) (e:Env),(stA x.op x.args.length deep&&(stB x.op x.name&&(x.args.all Ex.valid&&((!decide (x.op=8) || decide ((x.args.map Ex.op).getD 0 0=13))&&(stD x.op x.body.length x.els.length&&(Qan x.body (deep-1)&&Qan x.els (deep-1)))))))=b→
   lk 4 e=.c (.bool b)→Qq Qpr K .ret e H:=by
  intro b e h0 h1;simp only[go_sem,Qq,Q7,Qpr,Ja,forall_eq,RS.op,h1];rw[←h0];exact hK
 refine Qa ?_;simp only[go_sem,x.cells_eq];refine Q5 ?_;refine Qaf ?_;simp only[go_sem];have rest:∀b:Bool,b = !stA x.op x.args.length deep→Q8 prog (s_l3Stmt_2.seq Q9s) (Qq Qpr K)
   [(1,.c (.int .i64 deep)),(2,.c (.pp [.int .i64 x.op,.str x.name,.sl false 4 (Qw x.args),.sl false 5 (Qk x.body),.sl false 5 (Qk x.els)])),(23,.c (.bool b))] H:=by
  intro b hb;refine Qg (Qc rfl ?_ ?_)
  ·intro hc;have hA:stA x.op x.args.length deep=false:=by rw[hc]at hb;simpa using hb.symm
   refine Qa ?_;simp only[go_sem];refine Qi ?_;simp only[go_sem];exact retf false _ (by rw[hA];rfl) (by simp[lk])
  intro hc;have hA:stA x.op x.args.length deep=true:=by rw[hc]at hb;simpa using hb.symm
  rw[hA,Jr]at retf;simp only[stA,Jb,decide_eq_true_eq]at hA;obtain⟨⟨hdp,_⟩,hal⟩:=hA;have hap:0<x.args.length:=by rw[hal,argN];split <;> omega
  refine Qf ?_;simp only[go_sem];refine Qa ?_;simp only[go_sem];refine Q5 ?_;refine Qa ?_;simp only[go_sem];refine Qaau ?_;simp only[go_sem,Q9t];refine Qg (Qc rfl ?_ ?_)
  ·intro hc;have hB:stB x.op x.name=false:=by
    simp only[Qlf,Qey]at hc;simp only[stB];revert hc;by_cases h1:x.op=1 <;> by_cases h2:x.op=2 <;> cases Qdb x.name <;> by_cases h4:x.name=[] <;> simp[h1,h2,h4]
   refine Qa ?_;simp only[go_sem];refine Qi ?_;simp only[go_sem];exact retf false _ (by rw[hB];rfl) (by simp[lk])
  intro hc;have hB:stB x.op x.name=true:=by
   simp only[Qlf,Qey]at hc;simp only[stB];revert hc;by_cases h1:x.op=1 <;> by_cases h2:x.op=2 <;> cases Qdb x.name <;> by_cases h4:x.name=[] <;> simp[h1,h2,h4]
  rw[hB,Jr]at retf;refine Qf ?_;simp only[go_sem];refine Q5 ?_;refine Qa ?_;simp only[go_sem];refine Qg (Qe (Q2 (fun n e1 H1=>∃(i:Nat),n=x.args.length-i∧i≤x.args.length∧H1=H∧(x.args.take i).all Ex.valid=true∧e1=[(1,.c (.int .i64 deep)),(2,.c (.pp [.int .i64 x.op,.str x.name,.sl false 4 (Qw x.args),.sl false 5 (Qk x.body),.sl false 5 (Qk x.els)])),(6,.c (.int .i64 i))]) x.args.length ?_ ?_))
  ·exact⟨0,by omega,by omega,rfl,rfl,rfl⟩
  ·rintro n e1 H1 ⟨i,hn1,hi,rfl,hall,rfl⟩;refine Q5 ?_;refine Qa ?_;simp only[go_sem,Ql];intro hl;simp only[LIM]at hl;refine Qg (Qc rfl ?_ ?_)
   ·intro hc;have hlt:i<x.args.length:=(by simpa using hc);have hm:=Qar (Je hlt);refine Qf ?_;simp only[go_sem];refine Qg (Qe ?_);refine Qa ?_;simp only[go_sem,hlt,Ql,Qaq _ _ hlt,Ex.take4,Ex.allOw,Ex.cells_len];refine Qa0w (by omega) ?_;simp only[go_sem,Q9u];refine Qc rfl ?_ ?_
    ·intro hc2;refine Qa ?_;simp only[go_sem];refine Qi ?_;simp only[go_sem,X.next];exact retf false _ (by rw[Qg1 hlt (Qk9 hc2)];rfl) (by simp[lk])
    ·intro hc2;refine Qf ?_;simp only[go_sem];refine Qp ?_;simp only[go_sem,X.next];exact⟨Qm (by omega) (by omega),x.args.length-(i+1),by omega,i+1,rfl,by omega,by rw[Qdy hlt,hall,Qeh hc2];rfl,rfl⟩
   ·intro hc;have hge:x.args.length≤i:=(by simpa using hc);rw[Jd hge]at hall;rw[hall,Jr]at retf;have hg0:(x.args.map Ex.op).getD 0 0=x.args[0].op:=(by simp[Jc,hap]);refine Q1 ?_;simp only[go_sem,X.next];refine Q5 ?_;refine Qa ?_;simp only[go_sem,hap,Ql,Qaq _ _ hap,Ex.cells_eq];refine⟨fun _=>Jbe _,?_⟩;refine Qg (Qc rfl ?_ ?_)
    ·intro hc;have hC:(!decide (x.op=8) || decide ((x.args.map Ex.op).getD 0 0=13))=false:=by
      rw[hg0];simp only[Qey]at hc;revert hc;by_cases h1:x.op=8 <;> by_cases h2:x.args[0].op=13 <;> simp[h1,h2]
     refine Qa ?_;simp only[go_sem];refine Qi ?_;simp only[go_sem];exact retf false _ (by rw[hC];rfl) (by simp[lk])
    intro hc;have hC:(!decide (x.op=8) || decide ((x.args.map Ex.op).getD 0 0=13))=true:=by
     rw[hg0];simp only[Qey]at hc;revert hc;by_cases h1:x.op=8 <;> by_cases h2:x.args[0].op=13 <;> simp[h1,h2]
    rw[hC,Jr]at retf;refine Qf ?_;simp only[go_sem];refine Q5 ?_;refine Qa ?_;simp only[go_sem,Qv]
    intros
    have eb:decide ((0:Int)<(x.body.length:Int)) = !decide (x.body.length=0):=by
     rw[J4];simp only[decide_eq_true_eq,J6,decide_eq_false_iff_not];omega
    have ee:decide ((0:Int)<(x.els.length:Int)) = !decide (x.els.length=0):=by
     rw[J4];simp only[decide_eq_true_eq,J6,decide_eq_false_iff_not];omega
    refine Qg (Qc rfl ?_ ?_)
    ·intro hc;have hD:stD x.op x.body.length x.els.length=false:=by
      simp only[Qey,Qlf,eb,ee]at hc;simp only[stD];revert hc;by_cases h1:x.op=5 <;> by_cases h2:x.op=6 <;> cases decide (x.body.length=0) <;> cases decide (x.els.length=0) <;> simp[h1,h2]
     refine Qa ?_;simp only[go_sem];refine Qi ?_;simp only[go_sem];exact retf false _ (by rw[hD];rfl) (by simp[lk])
    intro hc;have hD:stD x.op x.body.length x.els.length=true:=by
     simp only[Qey,Qlf,eb,ee]at hc;simp only[stD];revert hc;by_cases h1:x.op=5 <;> by_cases h2:x.op=6 <;> cases decide (x.body.length=0) <;> cases decide (x.els.length=0) <;> simp[h1,h2]
    rw[hD,Jr]at retf;refine Qf ?_;simp only[go_sem];refine Qa ?_;simp only[go_sem];refine⟨Qm (by omega) (by omega),?_⟩;refine hS (Qh x.body) (by omega) _ _ _ _ _ (Jl _) (by omega) (by omega) ?_;simp only[go_sem,Q10];refine⟨fun _=>Qm (by omega) (by omega),?_⟩;refine⟨fun hb1=>?_,fun hb1=>?_⟩
    ·refine hS (Qh x.els) (by omega) _ _ _ _ _ (Jl _) (by omega) (by omega) ?_;simp only[go_sem,Qks,hb1];refine Qi ?_;exact retf _ _ (by rw[hb1,Jr]) (by simp[lk])
    ·simp only[go_sem,Qks,hb1];refine Qi ?_;exact retf false _ (by rw[hb1];rfl) (by simp[lk])
 refine⟨fun hb1=>?_,fun hb1=>?_⟩
 ·replace hb1:=Qk9 hb1;have hdp:1≤deep:=by simp at hb1;omega
  have hd1:decide (1≤deep)=true:=decide_eq_true hdp;refine Qd2 ?_;simp only[go_sem,Qo2,hb1,Ql,cond_false];refine⟨fun hb2=>?_,fun hb2=>?_⟩
  ·refine Qbaz ?_;simp only[go_sem,Qf0,Ql];refine rest _ ?_;have hln:decide ((x.args.length:Int)=if x.op=4 then 2 else 1)=decide (x.args.length=argN x.op):=by
    rw[decide_eq_decide,argN];split <;> omega
   simp only[stA,hd1,hln,Qlf];cases decide (1≤x.op∧x.op≤8) <;> cases decide (x.args.length=argN x.op) <;> rfl
  ·replace hb2:=Qeh hb2;simp only[go_sem,Qf0,hb2,Ql];refine rest _ ?_;have hop:decide (1≤x.op∧x.op≤8)=false:=by
    cases h:decide (1≤x.op∧x.op≤8)with
    |false=>rfl
    |true=>rw[h]at hb2;simp at hb2
   simp only[stA,hop,Ja7,Jad,Jae]
 ·replace hb1:=Qeh hb1;simp only[go_sem,Qo2,Qf0,hb1,Ql,cond_true];refine rest _ ?_;have hdp:decide (1≤deep)=false:=by
   rw[decide_eq_false_iff_not];simp at hb1;omega
  simp only[stA,hdp,Jad,Jae]
theorem Qboi (n:Nat):Qbgg n:=by
 induction n using Nat.strongRecOn with
 |ind n ih=>exact Qbko (Qboh ih)
theorem Qbqq {f:Fn}(hf:Qh f.body≤2^40)(hK:K (.c (.bool f.form)) H):Qj prog Qaxv [.ag f.cells] H K:=by
 refine Qb Qad Qbo1 ?_;have e0:f.form=(f.params.all Qdb&&(Qdb f.name&&(decide (f.params.length≤3)&&Qan f.body 4))):=by simp only[Fn.form,J7]
 rw[e0]at hK;have retf:∀(b:Bool) (e:Env),(f.params.all Qdb&&(Qdb f.name&&(decide (f.params.length≤3)&&Qan f.body 4)))=b→lk 2 e=.c (.bool b)→Qq Qfh K .ret e H:=by
  intro b e h0 h1;simp only[go_sem,Qq,Q7,Qfh,Ja,forall_eq,RS.op,h1];rw[←h0];exact hK
 refine Qa ?_;simp only[go_sem,Fn.cells];refine Q5 ?_;refine Qa ?_;simp only[go_sem];refine Qg (Qe (Q2 (fun n e1 H1=>∃(i:Nat),n=f.params.length-i∧i≤f.params.length∧H1=H∧(f.params.take i).all Qdb=true∧e1=[(1,.c (.pp [.str f.name,.sl false 1 (Q9 f.params),.sl false 5 (Qk f.body)])),(3,.c (.int .i64 i))]) f.params.length ?_ ?_))
 ·exact⟨0,by omega,by omega,rfl,rfl,rfl⟩
 ·rintro n e1 H1 ⟨i,hn1,hi,rfl,hall,rfl⟩;refine Q5 ?_;refine Qa ?_;simp only[go_sem,Qo];intro hl;simp only[LIM]at hl;refine Qg (Qc rfl ?_ ?_)
  ·intro hc;have hlt:i<f.params.length:=by simpa using hc
   have hg:f.params.getD i []=f.params[i]:=by simp[Jc,hlt]
   refine Qf ?_;simp only[go_sem];refine Qg (Qe ?_);refine Qa ?_;simp only[go_sem,hlt,Qo,Qbs _ _ hlt,hg];refine Qaau ?_;simp only[go_sem,Qaod];refine Qc rfl ?_ ?_
   ·intro hc2;refine Qa ?_;simp only[go_sem];refine Qi ?_;simp only[go_sem,X.next];exact retf false _ (by rw[Qg1 hlt (Qk9 hc2)];rfl) (by simp[lk])
   ·intro hc2;refine Qf ?_;simp only[go_sem];refine Qp ?_;simp only[go_sem,X.next];exact⟨Qm (by omega) (by omega),f.params.length-(i+1),by omega,i+1,rfl,by omega,by rw[Qdy hlt,hall,Qeh hc2];rfl,rfl⟩
  ·intro hc;have hge:f.params.length≤i:=by simpa using hc
   rw[Jd hge]at hall;rw[hall,Jr]at retf;refine Q1 ?_;simp only[go_sem,X.next];refine Qa ?_;simp only[go_sem];refine Qaau ?_;simp only[go_sem,Qaoe,Qo]
   intros
   have e3:decide ((f.params.length:Int)≤3)=decide (f.params.length≤3):=by rw[decide_eq_decide];omega
   refine⟨fun hb1=>?_,fun hb1=>?_⟩
   ·refine Qboi _ _ _ _ _ _ (Jl _) hf (by omega) ?_;simp only[go_sem,Q05,hb1];rw[Qey,e3,Jb]at hb1;refine Qi ?_;exact retf _ _ (by rw[hb1.1,hb1.2,Jr,Jr]) (by simp[lk])
   ·simp only[go_sem,Q05,hb1];rw[Qey,e3]at hb1;refine Qi ?_;exact retf false _ (by rw[←J7,hb1];rfl) (by simp[lk])
theorem Qban (l:List Fn):Qes l≤Qs l:=by
 induction l with
 |nil=>simp[Qes]
 |cons f r ih=>have:=Q3i f.body;simp only[Qes,Qs];omega
theorem Qbmm {l:List Fn}{fl:Bool}(hf:Qs l≤2^40)(hK:K (.c (.int .i64 (Qes l))) H):Qj prog Qake [.ag [.sl fl 3 (Q3 l)]] H K:=by
 refine Qb Qad Qbh7 ?_;refine Qa ?_;simp only[go_sem];refine Qa ?_;simp only[go_sem];refine Q5 ?_;refine Qa ?_;simp only[go_sem];refine Qg (Qe (Q2 (fun n e1 H1=>∃(i:Nat),n=l.length-i∧i≤l.length∧H1=H∧e1=[(1,.c (.pp [.sl fl 3 (Q3 l)])),(3,.c (.int .i64 (Qes (l.take i):Nat))),(4,.c (.int .i64 i))]) l.length ?_ ?_))
 ·exact⟨0,by omega,by omega,rfl,rfl⟩
 ·rintro n e1 H1 ⟨i,hn1,hi,rfl,rfl⟩;refine Q5 ?_;refine Qa ?_;simp only[go_sem,Qx];intro hl;simp only[LIM]at hl;refine Qg (Qc rfl ?_ ?_)
  ·intro hc;have hlt:i<l.length:=by simpa using hc
   have hm:=Qbf (Je hlt);have htk:=Qac4 hlt;have htl:=Qla l (i+1);have hct:=Qban (l.take (i+1));refine Qf ?_;simp only[go_sem];refine Qg (Qe (Qp ?_));simp only[go_sem,hlt,Qx,Qat _ _ hlt,Fn.cells];refine Qbcq _ _ (Jl _) (by omega) ?_;simp only[go_sem,Qaey];refine⟨Qm (by omega) (by omega),?_⟩;refine Qp ?_;simp only[go_sem,X.next];refine⟨Qm (by omega) (by omega),l.length-(i+1),by omega,i+1,rfl,by omega,?_⟩;rw[htk];simp
  ·intro hc;have hge:l.length≤i:=by simpa using hc
   refine Q1 ?_;simp only[go_sem,X.next];refine Qa ?_;simp only[go_sem];refine Qi ?_;simp only[go_sem,Qq,Q7,Qfh,Ja,forall_eq,RS.op];rw[Jd hge];exact hK
theorem Qako {l:List Fn}{fl:Bool}(hf:Qs l≤2^40)(hK:K (.c (.bool (Qqf l))) H):Qj prog Qcn [.ag [.sl fl 3 (Q3 l)]] H K:=by
 refine Qb Qad Qq4 ?_;have e0:Qqf l=(decide (1≤l.length∧l.length≤4)&&(l.all Fn.form&&decide (Qes l≤40))):=by simp only[Qqf,J7]
 rw[e0]at hK;have retf:∀(b:Bool) (e:Env),(decide (1≤l.length∧l.length≤4)&&(l.all Fn.form&&decide (Qes l≤40)))=b→lk 2 e=.c (.bool b)→Qq Qfh K .ret e H:=by
  intro b e h0 h1;simp only[go_sem,Qq,Q7,Qfh,Ja,forall_eq,RS.op,h1];rw[←h0];exact hK
 refine Qa ?_;simp only[go_sem];refine Q5 ?_;refine Qa ?_;simp only[go_sem,Qx];intro hl;simp only[LIM]at hl;refine Qd2 ?_;simp only[go_sem,Qe5];have e1:decide ((1:Int)≤(l.length:Int)∧(l.length:Int)≤4)=decide (1≤l.length∧l.length≤4):=by rw[decide_eq_decide];omega
 refine Qg (Qc rfl ?_ ?_)
 ·intro hc;have hA:=Qk9 hc;rw[e1]at hA;refine Qa ?_;simp only[go_sem];refine Qi ?_;simp only[go_sem];exact retf false _ (by rw[hA];rfl) (by simp[lk])
 intro hc;have hA:=Qeh hc;rw[e1]at hA;rw[hA,Jr]at retf;refine Qf ?_;simp only[go_sem];refine Q5 ?_;refine Qa ?_;simp only[go_sem];refine Qg (Qe (Q2 (fun n e1 H1=>∃(i:Nat),n=l.length-i∧i≤l.length∧H1=H∧(l.take i).all Fn.form=true∧e1=[(1,.c (.pp [.sl fl 3 (Q3 l)])),(3,.c (.int .i64 i))]) l.length ?_ ?_))
 ·exact⟨0,by omega,by omega,rfl,rfl,rfl⟩
 ·rintro n e1 H1 ⟨i,hn1,hi,rfl,hall,rfl⟩;refine Q5 ?_;refine Qa ?_;simp only[go_sem,Qx];refine fun _=>?_;refine Qg (Qc rfl ?_ ?_)
  ·intro hc;have hlt:i<l.length:=by simpa using hc
   have hm:=Qbf (Je hlt);refine Qf ?_;simp only[go_sem];refine Qg (Qe ?_);refine Qa ?_;simp only[go_sem,hlt,Qx,Qat _ _ hlt,Fn.take3,Fn.allOw,Fn.cells_len];refine Qbqq (by omega) ?_;simp only[go_sem,Qe6];refine Qc rfl ?_ ?_
   ·intro hc2;refine Qa ?_;simp only[go_sem];refine Qi ?_;simp only[go_sem,X.next];exact retf false _ (by rw[Qg1 hlt (Qk9 hc2)];rfl) (by simp[lk])
   ·intro hc2;refine Qf ?_;simp only[go_sem];refine Qp ?_;simp only[go_sem,X.next];exact⟨Qm (by omega) (by omega),l.length-(i+1),by omega,i+1,rfl,by omega,by rw[Qdy hlt,hall,Qeh hc2];rfl,rfl⟩
  ·intro hc;have hge:l.length≤i:=by simpa using hc
   rw[Jd hge]at hall;rw[hall,Jr]at retf;refine Q1 ?_;simp only[go_sem,X.next];refine Qa ?_;simp only[go_sem];refine Qbmm hf ?_;simp only[go_sem,Qe7];refine Qi ?_;exact retf (decide ((Qes l:Int)≤40)) _ (by rw[decide_eq_decide];omega) (by simp[lk])
end Go.AE.Y
