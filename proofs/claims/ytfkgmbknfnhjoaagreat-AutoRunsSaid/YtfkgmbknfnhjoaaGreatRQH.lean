/- Small laws of chapter 16 that the bundle leaves out; the page's example. -/
import Derived.Test.YtfkgmbknfnhjoaaGreatRPV
set_option maxHeartbeats 4000000
namespace Go.Proofs.YtfkgmbknfnhjoaaGreat
open Lib (hid)
open Go.RowKit
set_option linter.unusedSimpArgs false
set_option linter.unusedVariables false
set_option linter.ambiguousOpen false
open Ne (Rl Opt RulesAt areB)
open Fs (av hasB)
theorem alloc_off {w:World} {X:Nat} {o obj:Obj} (h:w.heap[X]? =some o):(w.alloc obj).heap[X]? =some o:=(Below.heap_alloc w obj X (lt_blk h)).trans h
theorem timO_lens (c:Cf) (a:Au) (tick:Int):(timO c a tick).2.1.length≤13∧(timO c a tick).2.2.length≤3:=by
 unfold timO
 split
 ·simp
 ·exact doO_lens ..
theorem lit_at {w w':World} {B:Nat} {A0 A:Option Addr} {E:List Ent} {n c base:Nat} (h:OptsAt w B A0 E) (hB:B≤w.heap.size) (hb:Below w.heap.size w w')
  (ho:w'.ownsRow base 111 2 (.slice A n c) n (cellsE (litE E))):OptsAt w' w'.heap.size A (litE E):=by
 refine⟨At.of_own ho,fun e he=>?_⟩
 simp only[litE,List.mem_map] at he
 obtain⟨x,hx,rfl⟩:=he
 obtain⟨h1,h2⟩:=h.2 x (List.mem_of_mem_take hx)
 refine⟨?_,?_⟩
 ·simp only[Ent.lit,List.map_take]
  exact(h1.keep (hb.mono hB)).more (by have:=hb.size;omega)|>.take 260
 ·simp only[Ent.lit,List.length_take];omega
theorem lit_len (E:List Ent):(litE E).length≤70:=by simp only[litE,List.length_map,List.length_take];omega
theorem lit_data (E:List Ent): ∀e∈litE E,e.d.length≤260:=by
 intro e he
 simp only[litE,List.mem_map] at he
 obtain⟨x,hx,rfl⟩:=he
 simp only[Ent.lit,List.length_take];omega
theorem plain_any (w:World):Calls Tryz.prog 47 #[] w fun x w'=>x=.returned (.agg #[.slice none 0 0,.int .i64 2,.int .i64 2,.int .i64 2,.int .i64 3])∧Below w.heap.size w w':=by
 go_enter Tryz.func47,Tryz.ntmps47
 go_wp2_with fail
 exact bodyPost_ret (v:=.agg #[.slice none 0 0,.int .i64 2,.int .i64 2,.int .i64 2,.int .i64 3]) (by simp[results,Tryz.results47,go_sem]) rfl ⟨rfl,by exact bel⟩
def cf0:Cf:=⟨[],2,2,2,3⟩
theorem do0:doO cf0 au0 1 ⟨0,0,[]⟩ ⟨0,0,[]⟩ 1=(⟨2,0,0,[],0,0,0⟩,[],Fs.tabActs 1 0):=by rfl
theorem do1:doO cf0 ⟨2,0,0,[],0,0,0⟩ 3 ⟨0,0,[]⟩ ⟨0,0,[]⟩ 5=(⟨6,1,1,[],1,8,0⟩,[⟨1,1,[]⟩],Fs.tabActs 3 2)∧(Fs.tabActs 3 2).length=2:=by exact⟨rfl,rfl⟩
set_option maxRecDepth 100000 in
theorem awake_any (w:World):Calls Tryz.prog 12 #[] w fun x w'=>x=.returned (.bool true)∧Below w.heap.size w w':=by
 go_enter Tryz.func12,Tryz.ntmps12
 go_wp2_with fail
 refine(new_any none 0 0 [] [] rfl _ _ (Nat.le_refl _) ⟨At.nil _ _ _,fun _ h=>by cases h⟩ rfl (by omega) (fun _ h=>by cases h)).mono ?_
 rw[new0.1,new0.2]
 rintro x w1 ⟨v,rfl,E,A,n,c,rfl,he,hn,hc,hb,ho⟩
 obtain rfl:E=[]:=List.map_eq_nil_iff.1 he
 obtain rfl:n=0:=hn
 unfold au0
 dsimp only
 go_upto_region 2 with(fail)
 have hszb:=hb.size
 obtain⟨T,hT⟩: ∃T,T=w1.heap.size:=⟨_,rfl⟩
 rw[←hT]
 refine wp_w (fun W=>W.heap[T]? =some (.cells #[.int .i64 0,.int .i64 0,.int .i64 0,.slice A 0 c,.int .i64 0,.int .i64 0,.int .i64 0] 29 (0,0))∧Below w.heap.size w W) ⟨by rw[hT];exact heap_alloc_new _ _,by exact bel⟩ ?_
 clear hT hb ho he
 rintro w2 ⟨ht,hb2⟩
 have HT:=hid ht
 have HB2:=hid hb2
 have hs2:=hb2.size
 have lT:=lt_blk ht
 obtain⟨t0,t1,t2,t3,t4,t5,t6⟩:=cells7 ht
 clear ht hb2 hszb
 go_cut [3] (fun s3 wx=> ∃(P:Nat) (A4:Option Addr) (c4:Nat) (W:World),W=wx∧s3=.pointer (some ⟨P,0,none⟩)∧W.heap[P]? =some (.cells #[.int .i64 2,.int .i64 0,.int .i64 0,.slice A4 0 c4,.int .i64 0,.int .i64 0,.int .i64 0] 29 (0,0))∧Below w.heap.size w W)
 case first=>
  have HNT:=hid (show T<w2.heap.size from lT)
  go_region_held3 (fun w'=>w'.cell? ⟨T,0,none⟩=some (.int .i64 0)∧w'.cell? ⟨T,1,none⟩=some (.int .i64 0)∧w'.cell? ⟨T,2,none⟩=some (.int .i64 0)∧w'.cell? ⟨T,3,none⟩=some (.slice A 0 c)∧w'.cell? ⟨T,4,none⟩=some (.int .i64 0)∧w'.cell? ⟨T,5,none⟩=some (.int .i64 0)∧w'.cell? ⟨T,6,none⟩=some (.int .i64 0)) (first|(go_keep;done)|(go_simp;done)|(simp[go_sem];done)) (first|((go_at_call 47;go_must (refine(plain_any _).mono ?_);rintro e w3 ⟨rfl,hb3⟩;obtain⟨xs3,d3,rfl⟩:=ext_of hb3;clear hb3;have lT3:T<grow w2.heap.size xs3:=(by simp only[grow];omega)))|((go_at_call 14;go_must (refine(do_any none A none none 0 0 0 c 0 0 0 0 [] 2 2 2 3 0 0 0 0 0 0 1 0 0 0 0 1 [] [] [] _ 0 (Nat.zero_le _) ⟨.inl rfl,fun _ h=>by cases h⟩ rfl (by omega) ⟨At.nil _ _ _,fun _ h=>by cases h⟩ rfl (by omega) (fun _ h=>by cases h) (At.nil _ _ _) rfl (Nat.le_refl _) (by omega) (At.nil _ _ _) rfl (Nat.le_refl _) (by omega)).mono ?_);rw[show doO ⟨[],2,2,2,3⟩ ⟨0,0,0,List.map Ent.o [],0,0,0⟩ 1 ⟨0,0,[]⟩ ⟨0,0,[]⟩ 1=_ from do0];rintro e w4 ⟨va,vo,vd,rfl,hb4,⟨E4,hE4,hEL4⟩,hp4,ha4⟩;obtain⟨A4,c4,rfl,-,-⟩:=ownsRow_form hE4.1;obtain rfl:E4=[]:=List.map_eq_nil_iff.1 hEL4;obtain⟨xs4,d4,rfl⟩:=ext_of hb4;clear hb4;unfold auV;dsimp only;have lT4:T<grow (grow w2.heap.size xs3) xs4:=(by simp only[grow];omega);have nT4: ¬T=grow (grow w2.heap.size xs3) xs4:=(by simp only[grow];omega))))
  all_goals
   go_wp2_with fail
   go_meet
   refine⟨_,A4,c4,_,rfl,rfl,?_,?_⟩
   ·first
     |(with_reducible refine heap_alloc_at _ _ _ ?_;(first|(simp[size_ext,grow];done)|(simp[size_ext,grow];omega)))
     |(with_reducible refine(heap_ext _ _ _ _ ?_).trans (heap_alloc_at _ _ _ ?_)<;>(first|(simp[size_ext,grow];done)|(simp[size_ext,grow];omega)))
     |(with_reducible refine(heap_ext _ _ _ _ ?_).trans ((heap_ext _ _ _ _ ?_).trans (heap_alloc_at _ _ _ ?_))<;>(first|(simp[size_ext,grow];done)|(simp[size_ext,grow];omega)))
   ·have h0:=HB2.out
    first
     |(with_reducible refine Below.alloc (below_ext (below_ext h0 ?_ _ _) ?_ _ _) ?_ _<;>(first|assumption|(simp only[size_ext,grow];omega)|(simp[size_ext,grow];omega)|(simp[size_ext,grow];done)))
     |(with_reducible refine below_ext (Below.alloc (below_ext h0 ?_ _ _) ?_ _) ?_ _ _<;>(first|assumption|(simp only[size_ext,grow];omega)|(simp[size_ext,grow];omega)|(simp[size_ext,grow];done)))
     |(with_reducible refine below_ext (below_ext (Below.alloc h0 ?_ _) ?_ _ _) ?_ _ _<;>(first|assumption|(simp only[size_ext,grow];omega)|(simp[size_ext,grow];omega)|(simp[size_ext,grow];done)))
 case rest=>
  obtain⟨P,A4,c4,W5,rfl,rfl,ht,hb2⟩:=hcut
  have HT:=hid ht
  have HB5:=hid hb2
  have hs5:=hb2.size
  have lT:=lt_blk ht
  obtain⟨t0,t1,t2,t3,t4,t5,t6⟩:=cells7 ht
  clear ht hb2 HB2 hs2
  go_upto_region 3 with(fail)
  go_cut [6,7,8] (fun s6 s7 s8 wx=> ∃(P6:Nat) (A5 A7 A8:Option Addr) (c5 c7 c8:Nat) (W:World),W=wx∧s6=.pointer (some ⟨P6,0,none⟩)∧s7=.slice A7 1 c7∧s8=.slice A8 2 c8∧W.heap[P6]? =some (.cells #[.int .i64 6,.int .i64 1,.int .i64 1,.slice A5 0 c5,.int .i64 1,.int .i64 8,.int .i64 0] 29 (0,0))∧W.heap[P]? =some (.cells #[.int .i64 2,.int .i64 0,.int .i64 0,.slice A4 0 c4,.int .i64 0,.int .i64 0,.int .i64 0] 29 (0,0))∧(∃base,PksO W base (.slice A7 1 c7) [⟨1,1,[]⟩])∧Below w.heap.size w W)
  case first=>
   go_region_held3 (fun w'=>w'.cell? ⟨P,0,none⟩=some (.int .i64 2)∧w'.cell? ⟨P,1,none⟩=some (.int .i64 0)∧w'.cell? ⟨P,2,none⟩=some (.int .i64 0)∧w'.cell? ⟨P,3,none⟩=some (.slice A4 0 c4)∧w'.cell? ⟨P,4,none⟩=some (.int .i64 0)∧w'.cell? ⟨P,5,none⟩=some (.int .i64 0)∧w'.cell? ⟨P,6,none⟩=some (.int .i64 0)) (first|(go_keep;done)|(go_simp;done)|(simp[go_sem];done)) (first|((go_at_call 47;go_must (refine(plain_any _).mono ?_);rintro e w3 ⟨rfl,hb3⟩;obtain⟨xs6,d6,rfl⟩:=ext_of hb3;clear hb3;have lT3:P<grow W5.heap.size xs6:=(by simp only[grow];omega)))|((go_at_call 14;go_must (refine(do_any none A4 none none 0 0 0 c4 0 0 0 0 [] 2 2 2 3 2 0 0 0 0 0 3 0 0 0 0 5 [] [] [] _ 0 (Nat.zero_le _) ⟨.inl rfl,fun _ h=>by cases h⟩ rfl (by omega) ⟨At.nil _ _ _,fun _ h=>by cases h⟩ rfl (by omega) (fun _ h=>by cases h) (At.nil _ _ _) rfl (Nat.le_refl _) (by omega) (At.nil _ _ _) rfl (Nat.le_refl _) (by omega)).mono ?_);rw[show doO ⟨[],2,2,2,3⟩ ⟨2,0,0,List.map Ent.o [],0,0,0⟩ 3 ⟨0,0,[]⟩ ⟨0,0,[]⟩ 5=_ from do1.1];rintro e w4 ⟨va5,vo5,vd5,rfl,hb4,⟨E5,hE5,hEL5⟩,hp5,ha5⟩;obtain⟨A5,c5,rfl,-,-⟩:=ownsRow_form hE5.1;obtain rfl:E5=[]:=List.map_eq_nil_iff.1 hEL5;obtain⟨A7,c7,rfl⟩:=pks_form hp5;obtain⟨A8,c8,rfl⟩:=acts_form ha5;have HP5:=hid hp5;have HA5:=hid ha5;obtain⟨xs7,d7,rfl⟩:=ext_of hb4;clear hb4 hp5 ha5;unfold auV;dsimp only;have lT4:P<grow (grow W5.heap.size xs6) xs7:=(by simp only[grow];omega);have nT4: ¬P=grow (grow W5.heap.size xs6) xs7:=(by simp only[grow];omega))))
   all_goals
    go_wp2_with fail
    go_meet
    refine⟨_,A5,A7,A8,c5,c7,c8,_,rfl,rfl,rfl,rfl,?_,?_,?_,?_⟩
    ·first
      |(with_reducible refine heap_alloc_at _ _ _ ?_;(first|(simp[size_ext,grow];done)|(simp[size_ext,grow];omega)))
      |(with_reducible refine(heap_ext _ _ _ _ ?_).trans (heap_alloc_at _ _ _ ?_)<;>(first|(simp[size_ext,grow];done)|(simp[size_ext,grow];omega)))
      |(with_reducible refine(heap_ext _ _ _ _ ?_).trans ((heap_ext _ _ _ _ ?_).trans (heap_alloc_at _ _ _ ?_))<;>(first|(simp[size_ext,grow];done)|(simp[size_ext,grow];omega)))
    ·first
      |(with_reducible refine(heap_alloc_past _ _ _ ?_).trans ((heap_ext _ _ _ _ ?_).trans ((heap_ext _ _ _ _ ?_).trans HT.out))<;>(first|assumption|(simp only[size_ext,grow];omega)|(simp[size_ext,grow];omega)|(simp[size_ext,grow];done)))
      |(with_reducible refine(heap_ext _ _ _ _ ?_).trans ((heap_alloc_past _ _ _ ?_).trans ((heap_ext _ _ _ _ ?_).trans HT.out))<;>(first|assumption|(simp only[size_ext,grow];omega)|(simp[size_ext,grow];omega)|(simp[size_ext,grow];done)))
      |(with_reducible refine(heap_ext _ _ _ _ ?_).trans ((heap_ext _ _ _ _ ?_).trans ((heap_alloc_past _ _ _ ?_).trans HT.out))<;>(first|assumption|(simp only[size_ext,grow];omega)|(simp[size_ext,grow];omega)|(simp[size_ext,grow];done)))
    ·have h5:=HP5.out
     first
      |exact⟨_,h5.below (Below.alloc (Below.refl _ _) (Nat.le_refl _) _)⟩
      |exact⟨_,h5.stays (grown_exts (alloc_swap _ _ _) (by simp)) (by simp[size_ext,grow])⟩
      |exact⟨_,h5.stays (grown_exts (grown_exts (alloc_swap _ _ _) (by simp)) (by simp[size_ext,grow])) (by simp[size_ext,grow];omega)⟩
    ·have h0:=HB5.out
     first
      |(with_reducible refine Below.alloc (below_ext (below_ext h0 ?_ _ _) ?_ _ _) ?_ _<;>(first|assumption|(simp only[size_ext,grow];omega)|(simp[size_ext,grow];omega)|(simp[size_ext,grow];done)))
      |(with_reducible refine below_ext (Below.alloc (below_ext h0 ?_ _ _) ?_ _) ?_ _ _<;>(first|assumption|(simp only[size_ext,grow];omega)|(simp[size_ext,grow];omega)|(simp[size_ext,grow];done)))
      |(with_reducible refine below_ext (below_ext (Below.alloc h0 ?_ _) ?_ _ _) ?_ _ _<;>(first|assumption|(simp only[size_ext,grow];omega)|(simp[size_ext,grow];omega)|(simp[size_ext,grow];done)))
  case rest=>
   obtain⟨P6,A5,A7,A8,c5,c7,c8,W6,rfl,rfl,rfl,rfl,h6,ht,hp,hb⟩:=hcut
   obtain⟨base,Q,hQ,hq⟩:=hp
   obtain⟨e,rfl,h1,h2⟩: ∃e,Q=[e]∧e.code=1∧e.id=1:=by
    match Q,hq with
    |[e],hq=>
     simp only[List.map_cons,List.map_nil,List.cons.injEq,and_true,Pe.o,Pk.mk.injEq] at hq
     exact⟨e,rfl,hq.1,hq.2.1⟩
   obtain⟨b,o,rfl,hbB,x0,x1,x2⟩:=(OwnPks.at hQ).get (k:=0) (by simp)
   simp only[List.getElem_cons_zero,h1,h2,Nat.zero_mul,Nat.add_zero] at x0 x1
   obtain⟨a0,a1,a2,a3,a4,a5,a6⟩:=cells7 h6
   obtain⟨t0,t1,t2,t3,t4,t5,t6⟩:=cells7 ht
   have HB6:=hid hb
   have hs6:=hb.size
   have l6:=lt_blk h6
   have lt:=lt_blk ht
   clear hQ hq h1 h2 x2 h6 ht hb a1 a2 a3 a6 t1 t2 t3 t4 t5 t6 HT HB5 hs5 lT
   go_wp2_with fail
   go_ret
   exact⟨rfl,by have:=HB6.out;exact bel⟩
end Go.Proofs.YtfkgmbknfnhjoaaGreat
