/- ParseParts, part 22: what it stands on. -/
import Derived.Test.YtfdlmcgcckkkdaaGreatDoorV21
import Derived.Test.YtfdlmcgcckkkdaaGreatDoorV17
set_option linter.all false
set_option maxHeartbeats 40000000
set_option maxRecDepth 100000
namespace Go.Proofs.YtfdlmcgcckkkdaaGreatDoor
section
open Go.RowKit Lx Px
theorem leA{p:Prop}(h:p:=by(try dsimp only);omega):p:=h
theorem tvk{wB w1 w':World}{qb B:Nat}{v:Value}{l':List Tk}{rv}{x y z u q:Value}(KT:Hid (∀ (w':World) (l':List Tk) (rv:List (Nat×List Value)),SP wB qb w1 v w' l' rv→TV w' B x y z u q))(S:SP wB qb w1 v w' l' rv):w'.cell? ⟨B,0,none⟩=some x∧w'.cell? ⟨B,1,none⟩=some y∧w'.cell? ⟨B,2,none⟩=some z∧w'.cell? ⟨B,3,none⟩=some u∧w'.cell? ⟨B,4,none⟩=some q∧w'.frozen? ⟨B,0,none⟩=false∧w'.frozen? ⟨B,1,none⟩=false∧w'.frozen? ⟨B,2,none⟩=false∧w'.frozen? ⟨B,3,none⟩=false∧w'.frozen? ⟨B,4,none⟩=false:=TV.facts (KT.out _ _ _ S)
theorem ctA{p:Prop}(h:p:=by first|rfl|(simp only[vB,wY,DC,kwF,List.map_drop,List.map_take,List.append_assoc];rfl)|simp[vB,wY,DC,kwF,List.map_drop,List.map_take,eQ,uE,lS,mW,pF]):p:=h
def PG(f:FuncId)(k:Int)(tok:T→Int→Int→ByteArray→List Tk):Prop:=∀ (wB:World) (_:eJ wB) (qb:Nat) (t:T) (_:PD wB qb t) (w:World) (v:Value) (l:List Tk) (n a:Int) (s:ByteArray) (ao:Option Addr) (m c:Nat) (_:Pt wB qb w v l) (_:Tr wB t (vT k n a s ao m c)) (_:l.length+(tok t n a s).length≤dK),
 Calls Tryz.prog f #[pq qb,tg k n a s ao m c] w (PrQ wB qb w v l (tok t n a s))
theorem gT{wB w:World}{qb:Nat}{v:Value}{l:List Tk}(h:Pt wB qb w v l)(A:Array Value):Below w.heap.size w (w.alloc (.cells A 24))∧(w.alloc (.cells A 24)).heap[w.heap.size]?=some (.cells A 24 (0,0))∧Pt wB qb (w.alloc (.cells A 24)) v l∧v.ownBlock≠some w.heap.size∧w.heap.size≠qb∧w.heap.size<(w.alloc (.cells A 24)).heap.size:=
 ⟨aC w _,heap_alloc_new w _,h.below (aC w _),fun e=>by have:=(h.own.lt _ e).2;omega,by have:=h.lt;omega,by simp⟩
theorem zL{wB w:World}{qb:Nat}{v:Value}{l:List Tk}(h:Pt wB qb w v l)(A:Array Value):Below w.heap.size w ((w.alloc (.cells #[pq qb] 113)).alloc (.cells A 24))∧((w.alloc (.cells #[pq qb] 113)).alloc (.cells A 24)).heap[w.heap.size+1]?=some (.cells A 24 (0,0))∧((w.alloc (.cells #[pq qb] 113)).alloc (.cells A 24)).heap[w.heap.size]?=some (.cells #[pq qb] 113 (0,0))∧Pt wB qb ((w.alloc (.cells #[pq qb] 113)).alloc (.cells A 24)) v l∧v.ownBlock≠some (w.heap.size+1)∧w.heap.size+1≠qb∧w.heap.size+1<((w.alloc (.cells #[pq qb] 113)).alloc (.cells A 24)).heap.size∧v.ownBlock≠some w.heap.size∧w.heap.size≠qb∧w.heap.size<((w.alloc (.cells #[pq qb] 113)).alloc (.cells A 24)).heap.size:=by
 have b1:=aC w (.cells #[pq qb] 113);have n2:=heap_alloc_new w (.cells #[pq qb] 113);have hs:(w.alloc (.cells #[pq qb] 113)).heap.size=w.heap.size+1:=by simp
 generalize w.alloc (.cells #[pq qb] 113)=w1 at b1 n2 hs ⊢;have b2:=aC w1 (.cells A 24);have n1:=heap_alloc_new w1 (.cells A 24);have hz:w1.heap.size<(w1.alloc (.cells A 24)).heap.size:=by simp
 have B:=b1.trans (b2.mono b1.size);rw[hs]at n1 hz;exact⟨B,n1,(b2.block _ (by omega)).trans n2,h.below B,fun e=>by have:=(h.own.lt _ e).2;omega,by have:=h.lt;omega,hz,fun e=>by have:=(h.own.lt _ e).2;omega,by have:=h.lt;omega,by omega⟩
theorem kt1{wB w1:World}{qb B:Nat}{v:Value}{l:List Tk}{x y z u q:Value}(h1:Pt wB qb w1 v l)(hz:B<w1.heap.size)(hq:B≠qb)(ho:v.ownBlock≠some B)(n1:w1.heap[B]?=some (.cells #[x,y,z,u,q] 24 (0,0))):Hid (∀ (w':World) (l':List Tk) (rv:List (Nat×List Value)),SP wB qb w1 v w' l' rv→TV w' B x y z u q)∧SP wB qb w1 v w1 l []∧Hid (B<w1.heap.size)∧Hid (w1.heap[B]?=some (.cells #[x,y,z,u,q] 24 (0,0))):=
 ⟨hdq fun _ _ _ S=>(S.old hz hq ho).trans n1,SP.begin h1,hdq hz,hdq n1⟩
theorem kt2{wB w1:World}{qb B C:Nat}{v:Value}{l:List Tk}{x y z u q:Value}(h1:Pt wB qb w1 v l)(hz:B<w1.heap.size)(hq:B≠qb)(ho:v.ownBlock≠some B)(n1:w1.heap[B]?=some (.cells #[x,y,z,u,q] 24 (0,0)))(hz2:C<w1.heap.size)(hq2:C≠qb)(ho2:v.ownBlock≠some C)(n2:w1.heap[C]?=some (.cells #[pq qb] 113 (0,0))):Hid (∀ (w':World) (l':List Tk) (rv:List (Nat×List Value)),SP wB qb w1 v w' l' rv→TV w' B x y z u q)∧SP wB qb w1 v w1 l []∧Hid (B<w1.heap.size)∧Hid (w1.heap[B]?=some (.cells #[x,y,z,u,q] 24 (0,0)))∧Hid (∀ (w':World) (l':List Tk) (rv:List (Nat×List Value)),SP wB qb w1 v w' l' rv→w'.cell? ⟨C,0,none⟩=some (.pointer (some ⟨qb,0,none⟩)))∧Hid (w1.heap[C]?=some (.cells #[pq qb] 113 (0,0))):=
 ⟨hdq fun _ _ _ S=>(S.old hz hq ho).trans n1,SP.begin h1,hdq hz,hdq n1,hdq fun _ _ _ S=>cell_of_row _ _ 0 _ _ _ ((S.old hz2 hq2 ho2).trans n2),hdq n2⟩
theorem eS{wB w w1 w':World}{qb:Nat}{v:Value}{l2:List Tk}{rv}(S:SP wB qb w1 v w' l2 rv)(b1:Below w.heap.size w w1)(l tok:List Tk)(e:l2=l++tok:=by simp only[List.append_assoc,List.append_nil]):PrQ wB qb w v l tok (.returned (.tuple #[])) w':=by
 subst e;exact PrQ.pre (SP.Da S) b1
theorem yU{s:ByteArray}(h:s.size=0):s=⟨#[]⟩:=by
 obtain⟨⟨d⟩⟩:=s;have:d.length=0:=h;rw[List.length_eq_zero_iff]at this;rw[this]
theorem sD(wB:World)(qb:Nat)(w:World)(v:Value)(l:List Tk)(word:ByteArray)(B2 B3:Nat)(x y z u:Value)(s:ByteArray)(h:Pt wB qb w v l)(hp:w.heap[B2]?=some (.cells #[pq qb] 113 (0,0)))(n2:B2≠qb)(o2:v.ownBlock≠some B2)(ht:TV w B3 x y z s u)(n3:B3≠qb)(o3:v.ownBlock≠some B3)(hl:l.length+5≤dK):Calls Tryz.prog 173 #[word,pq B2,pq B3] w (PrQ wB qb w v l ([word,gZ].map W++([sLP].map O++([s].map W++[sRP].map O)))):=by
 have l2:=(Array.getElem?_eq_some_iff.1 hp).1;have l3:=ht.lt;have kp:∀ (w':World) (l':List Tk) (rv:List (Nat×List Value)),SP wB qb w v w' l' rv→w'.cell? ⟨B2,0,none⟩=some (.pointer (some ⟨qb,0,none⟩)):=fun _ _ _ S=>cell_of_row _ _ 0 _ _ _ ((S.old l2 n2 o2).trans hp)
 have kt:∀ (w':World) (l':List Tk) (rv:List (Nat×List Value)),SP wB qb w v w' l' rv→TV w' B3 x y z s u:=fun _ _ _ S=>(S.old l3 n3 o3).trans ht
 have KP:=hdq kp;have KT:=hdq kt;have S0:=SP.begin h;clear kp kt hp ht h;go_enter Tryz.func173,Tryz.ntmps173;have kq0:=KP.out _ _ _ S0;have:=TV.facts (KT.out _ _ _ S0);go_upto_block 0 with fail;refine m2q (S0.aL [word,gZ] aJ #[.string word,.string ⟨#[70,73,76,69]⟩] rfl 2 rfl) fun x1 S1=>?_;have kq1:=KP.out _ _ _ S1;have:=TV.facts (KT.out _ _ _ S1);go_upto_block 1 with fail;refine m2q (S1.opC [sLP] aJ #[.string ⟨#[40]⟩] rfl 1 rfl) fun x2 S2=>?_;have kq2:=KP.out _ _ _ S2;have:=TV.facts (KT.out _ _ _ S2);go_upto_block 2 with fail;refine m2q (S2.aL [s] aJ #[.string s] rfl 1 rfl) fun x3 S3=>?_;have kq3:=KP.out _ _ _ S3;have:=TV.facts (KT.out _ _ _ S3);go_upto_block 3 with fail;refine m2q (S3.opC [sRP] aJ #[.string ⟨#[41]⟩] rfl 1 rfl) fun x4 S4=>?_;have P:PrQ wB qb w v l ([word,gZ].map W++([sLP].map O++([s].map W++[sRP].map O))) (.returned (.tuple #[])) _:=SP.Da (by simpa only[List.append_assoc]using S4);clear S0 S1 S2 S3 S4
 go_wp2
 go_end0;exact P
theorem zJ(wB:World)(qb:Nat)(w:World)(v:Value)(l:List Tk)(word:ByteArray)(B2 B3:Nat)(x y z u:Value)(s:ByteArray)(h:Pt wB qb w v l)(hp:w.heap[B2]?=some (.cells #[pq qb] 113 (0,0)))(n2:B2≠qb)(o2:v.ownBlock≠some B2)(ht:TV w B3 x y z s u)(n3:B3≠qb)(o3:v.ownBlock≠some B3)(hl:l.length+2≤dK):Calls Tryz.prog 174 #[word,pq B2,pq B3] w (PrQ wB qb w v l (eQ word s)):=by
 have l2:=(Array.getElem?_eq_some_iff.1 hp).1;have l3:=ht.lt;have kp:∀ (w':World) (l':List Tk) (rv:List (Nat×List Value)),SP wB qb w v w' l' rv→w'.cell? ⟨B2,0,none⟩=some (.pointer (some ⟨qb,0,none⟩)):=fun _ _ _ S=>cell_of_row _ _ 0 _ _ _ ((S.old l2 n2 o2).trans hp)
 have kt:∀ (w':World) (l':List Tk) (rv:List (Nat×List Value)),SP wB qb w v w' l' rv→TV w' B3 x y z s u:=fun _ _ _ S=>(S.old l3 n3 o3).trans ht
 have KP:=hdq kp;have KT:=hdq kt;have S0:=SP.begin h;clear kp kt hp ht h
 by_cases hs:s=⟨#[]⟩
 ·subst hs;go_enter Tryz.func174,Tryz.ntmps174;have kq0:=KP.out _ _ _ S0;go_upto_block 0 with fail;refine m2q (S0.aL [word] aJ #[.string word] rfl 1 rfl) fun x1 S1=>?_;have:=TV.facts (KT.out _ _ _ S1);have P:PrQ wB qb w v l (eQ word ⟨#[]⟩) (.returned (.tuple #[])) _:=SP.Da (show SP _ _ _ _ _ (l++([word].map W)) _ from S1);clear S0 S1
  go_wp2
  go_end0;exact P
 ·have hs1:(s.toList == [])=false:=beq_eq_false_iff_ne.2 fun e=>hs (by rw[← kK,e,ByteArray.toList_eq])
  have hs2:decide (s=⟨#[]⟩)=false:=decide_eq_false hs;have HT:=hdq (show eQ word s=[word].map W++[s].map W by unfold eQ;rw[if_neg (fun e=>hs (yU e))];rfl);go_enter Tryz.func174,Tryz.ntmps174;have kq0:=KP.out _ _ _ S0;go_upto_block 0 with fail;refine m2q (S0.aL [word] aJ #[.string word] rfl 1 rfl) fun x1 S1=>?_;have:=TV.facts (KT.out _ _ _ S1);have kq1:=KP.out _ _ _ S1;clear hs;go_upto_block 2 with fail;refine m2q (S1.aL [s] aJ #[.string s] rfl 1 rfl) fun x2 S2=>?_;have P:PrQ wB qb w v l (eQ word s) (.returned (.tuple #[])) _:=SP.Da (by rw[HT.out,← List.append_assoc];exact S2);clear S0 S1 S2
  go_wp2
  go_end0;exact P
end
end Go.Proofs.YtfdlmcgcckkkdaaGreatDoor
