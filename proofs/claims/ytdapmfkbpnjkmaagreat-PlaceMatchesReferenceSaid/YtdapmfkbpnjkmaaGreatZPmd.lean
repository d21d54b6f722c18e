
import Derived.Test.YtdapmfkbpnjkmaaGreatZPmc
import Derived.Laws.Shifts
import Derived.Scope
namespace Go.Proofs.YtdapmfkbpnjkmaaGreat
open Go Go.Sx
set_option linter.all false
set_option maxRecDepth 20000
set_option maxHeartbeats 4000000
theorem b3o (I:IMap) (v:Value) (l:List Part) (hv:RdS I v l) (hl:l.length≤1000000) (x:Part) (B:Option Addr) (d:Nat) (hr:Enc.rd I (x.cells (.slice B x.props.length d)) x) :
    FnI Tryz.prog 309 #[.agg #[v],.agg (x.cells (.slice B x.props.length d)).toArray] I (fun u J=>∃w,u = .agg #[w]∧RdS J w (b2y Part.name x l)):=by
 obtain⟨A,c0,rfl,hA,hc,hm⟩:=hv;refine enter Tryz.func309 Tryz.call309 rfl Tryz.ntmps309 rfl (fun w0=>?_);refine go 3 ?_;refine a0B _ rfl rfl rfl (fun g2=>?_);refine go 1 ?_;refine a0B _ rfl rfl rfl (fun g3=>?_);refine go 1 ?_;refine a0j he rfl (fun g4=>?_);refine go 5 ?_;refine a0j he rfl (fun g5=>?_);refine go 4 ?_;refine a1f 48 14 ?_;refine go 10 ?_
 refine a5x ((0:Nat)) (_) ([]) (_) ([]) (fun i v xs b out=>I)
  (fun i v xs b out=>[(2,.pointer (some ⟨g2,0,none⟩)),(3,.pointer (some ⟨g3,0,none⟩)),(4,.pointer (some ⟨g4,0,none⟩)),(5,.pointer (some ⟨g5,0,none⟩)),(6,.bool b),(7,.int .i64 ((i:Nat):Int))])
  (fun i v xs b out=>[.row v 48 14 out.length xs,.blk g5 53 [v],.blk g4 53 [.slice none 0 0],.blk g3 48 (x.cells (.slice B x.props.length d)),.blk g2 53 [.slice A l.length c0]])
  (fun i v xs b out=>i≤l.length∧wF Part.name x (l.take i)=(out,b)∧Flat I xs out)
  (fun i v xs b out=>l.length-i) ⟨Nat.zero_le _,rfl,.nil⟩ rfl sb rfl ?_
 intro i v xs b out ⟨hi,hw,hF⟩
 have hol:=d0P hw
 refine go 10 ?_;refine cb rfl (fun h12 p12=>?_) (fun h12 p12=>?_)
 ·have hlt:i<l.length:=by omega
  refine go 6 ?_;refine a0F T.mixed ?_;refine a0e 0 rfl rfl (by kernel_rfl) rfl (.refl _) rfl (a0a rfl) ?_;refine a0e 1 rfl rfl (by kernel_rfl) rfl (.refl _) rfl (a8x rfl) ?_;refine a0e 2 rfl rfl (by kernel_rfl) rfl (.refl _) rfl (a0a rfl) ?_;refine sxb 17 rfl (fun h17 p17=>?_) (fun h17 p17=>?_)
  ·refine d_t 3 rfl rfl (by kernel_rfl) rfl (fun _ m=>m.keeps (.refl _)) (a0k rfl rfl h17 (a0g he rfl)) ?_;refine d_t 4 rfl rfl (by kernel_rfl) rfl (fun _ m=>m.keeps (.refl _)) (a0k rfl rfl h17 (a2H m4 he rfl rfl)) ?_;refine d_t 5 rfl rfl (by kernel_rfl) rfl (fun _ m=>m.keeps (.refl _)) (a0k rfl rfl h17 (a0a rfl)) ?_;obtain⟨b21,o21,w21,e21,c21,r21⟩:=RdA.at_ hA (i:=i) hlt;obtain⟨q21,rfl,B21,d21,rfl,hB21,hd21,hm21⟩:=r21;refine d_t 6 rfl rfl (by kernel_rfl) rfl (fun _ m=>m.keeps (.refl _)) (a0k rfl rfl h17 (a0h he rfl rfl e21 (i) (by omega) hlt)) ?_;refine d_t 7 rfl rfl (by kernel_rfl) rfl (fun _ m=>m.keeps (.refl _)) (a0k rfl rfl h17 (a0g he rfl)) ?_;refine d_t 8 rfl rfl (by kernel_rfl) rfl (fun _ m=>m.keeps (.refl _)) (a0k rfl rfl h17 (a0K he rfl (c21 0 _ rfl))) ?_;refine d_t 9 rfl rfl (by kernel_rfl) rfl (fun _ m=>m.keeps (.refl _)) (a0k rfl rfl h17 (a0g he rfl)) ?_;refine d_t 10 rfl rfl (by kernel_rfl) rfl (fun _ m=>m.keeps (.refl _)) (a0k rfl rfl h17 (a2H m3 he rfl rfl)) ?_;refine d_t 11 rfl rfl (by kernel_rfl) rfl (fun _ m=>m.keeps (.refl _)) (a0k rfl rfl h17 (b0Z rfl rfl)) ?_;refine a0e 12 rfl rfl (by kernel_rfl) rfl (.refl _) rfl (a3g h17 rfl rfl) ?_;refine a0n (by kernel_rfl) ?_;refine go 1 ?_;refine cb rfl (fun h27 p27=>?_) (fun h27 p27=>?_)
   ·refine go 6 ?_;refine a0c he he rfl rfl rfl rfl rfl rfl rfl (fun v31=>?_);refine go 1 ?_;refine a0f ?_;refine a0v he he rfl rfl rfl rfl rfl (by omega) (by omega) rfl (fun v32=>?_);refine a5B (fun u=>?_);refine go 2 ?_;refine a0o ?_;refine a2f he rfl rfl u rfl ?_;refine go 7 ?_;refine a0F T.mixed ?_;refine a0e 0 rfl rfl (by kernel_rfl) rfl (.refl _) rfl (a0g he rfl) ?_;refine a0e 1 rfl rfl (by kernel_rfl) rfl (.refl _) rfl (a2H m5 he rfl rfl) ?_;refine a0e 2 rfl rfl (by kernel_rfl) rfl (.refl _) rfl (a0a rfl) ?_;obtain⟨b37,o37,w37,e37,c37,r37⟩:=RdA.at_ hA (i:=i) hlt;obtain⟨q37,rfl,B37,d37,rfl,hB37,hd37,hm37⟩:=r37;refine a0e 3 rfl rfl (by kernel_rfl) rfl (.refl _) rfl (a0h he rfl rfl e37 (i) (by omega) hlt) ?_;refine a0e 4 rfl rfl (by kernel_rfl) rfl (.refl _) rfl (a0g he rfl) ?_;refine a0e 5 rfl rfl (by kernel_rfl) rfl (.refl _) rfl (a0K he rfl (c37 0 _ rfl)) ?_;refine a0e 6 rfl rfl (by kernel_rfl) rfl (.refl _) rfl (a0g he rfl) ?_;refine a0e 7 rfl rfl (by kernel_rfl) rfl (.refl _) rfl (a2H m4 he rfl rfl) ?_;refine a0e 8 rfl rfl (by kernel_rfl) rfl (.refl _) rfl (b1a rfl rfl) ?_;refine a0n (by kernel_rfl) ?_;refine go 1 ?_;refine cb rfl (fun h42 p42=>?_) (fun h42 p42=>?_)
    ·refine a0f ?_;refine a8A T.mixed ?_;refine a0e 0 rfl rfl (by kernel_rfl) rfl (.cons _ (.cons _ (.refl _))) rfl (a0g he rfl) ?_;refine a0e 2 rfl rfl (by kernel_rfl) rfl (.cons _ (.cons _ (.refl _))) rfl (a0g he rfl) ?_;refine a0e 3 rfl rfl (by kernel_rfl) rfl (.cons _ (.cons _ (.refl _))) rfl (a2H m3 he rfl rfl) ?_;refine a0e 4 rfl rfl (by kernel_rfl) rfl (.cons _ (.cons _ (.refl _))) rfl (a0a rfl) ?_;obtain⟨b48,o48,w48,e48,c48,r48⟩:=RdA.at_ hA (i:=i) hlt;obtain⟨q48,rfl,B48,d48,rfl,hB48,hd48,hm48⟩:=r48;refine a0e 5 rfl rfl (by kernel_rfl) rfl (.cons _ (.cons _ (.refl _))) rfl (a0h he rfl rfl e48 (i) (by omega) hlt) ?_;refine a0e 6 rfl rfl (by kernel_rfl) rfl (.cons _ (.cons _ (.refl _))) rfl (a0G he rfl c48 rfl) ?_;refine a3O 1 7 (by kernel_rfl) rfl rfl ?_ ?_
     ·refine a0t rfl (a2H m1 he rfl rfl) ?_;refine a0D (fun _ m=>m.keeps (.cons _ (.cons _ (.refl _)))) ?_;refine a0m 7 (by kernel_rfl) rfl ?_;refine a0c he he rfl rfl rfl rfl rfl rfl rfl (fun v50=>?_);refine a0D (fun _ m=>m.keeps (.cons _ (.cons _ (.cons _ (.refl _))))) ?_;refine a0m 8 (by kernel_rfl) rfl ?_;refine a0f ?_;refine a0v he he rfl rfl rfl rfl rfl (by omega) (by omega) rfl (fun v51=>?_);refine a5B (fun u=>?_);refine a0D (fun _ m=>m.keeps (.cons _ (.cons _ (.cons _ (.refl _))))) ?_;refine a0e 9 rfl rfl (by kernel_rfl) rfl (.cons _ (.cons _ (.cons _ (.refl _)))) rfl (a0g he rfl) ?_;refine a0m 10 (by kernel_rfl) rfl ?_;refine a0o ?_;refine a2f he rfl rfl u rfl ?_;refine a0D (fun _ m=>m.keeps (.cons _ (.cons _ (.cons _ (.refl _))))) ?_;refine a0n (by kernel_rfl) ?_;refine go 8 ?_;refine a0o ?_;refine a0b ?_;refine a0o ?_;refine a0b ?_;refine a0N ?_;refine a0N ?_;refine a0N ?_;refine a1c ?_;refine a0N ?_;exact a1T (i+1) (_) (_) (_) (out++[x]++[l[i]]) ⟨by omega,c7D hlt hw h17 h27 h42,(hF.append (.one hr)).append (.one ⟨_,rfl,B48,d48,rfl,hB48,hd48,hm48⟩)⟩ (by omega) rfl sb (by first|rfl|(simp only[List.length_append,List.length_singleton];rfl)|simp only[List.length_append,List.length_singleton])
     ·refine a0c he he rfl rfl rfl rfl rfl rfl rfl (fun v50=>?_);refine a0D (fun _ m=>m.keeps (.cons _ (.cons _ (.cons _ (.refl _))))) ?_;refine a0m 1 (by kernel_rfl) rfl ?_;refine a0t rfl (a2H m2 he rfl rfl) ?_;refine a0D (fun _ m=>m.keeps (.cons _ (.cons _ (.cons _ (.refl _))))) ?_;refine a0m 8 (by kernel_rfl) rfl ?_;refine a0f ?_;refine a0v he he rfl rfl rfl rfl rfl (by omega) (by omega) rfl (fun v51=>?_);refine a5B (fun u=>?_);refine a0D (fun _ m=>m.keeps (.cons _ (.cons _ (.cons _ (.refl _))))) ?_;refine a0e 9 rfl rfl (by kernel_rfl) rfl (.cons _ (.cons _ (.cons _ (.refl _)))) rfl (a0g he rfl) ?_;refine a0m 10 (by kernel_rfl) rfl ?_;refine a0o ?_;refine a2f he rfl rfl u rfl ?_;refine a0D (fun _ m=>m.keeps (.cons _ (.cons _ (.cons _ (.refl _))))) ?_;refine a0n (by kernel_rfl) ?_;refine go 8 ?_;refine a0o ?_;refine a0b ?_;refine a0o ?_;refine a0b ?_;refine a0N ?_;refine a0N ?_;refine a0N ?_;refine a1c ?_;refine a0N ?_;exact a1T (i+1) (_) (_) (_) (out++[x]++[l[i]]) ⟨by omega,c7D hlt hw h17 h27 h42,(hF.append (.one hr)).append (.one ⟨_,rfl,B48,d48,rfl,hB48,hd48,hm48⟩)⟩ (by omega) rfl sb (by first|rfl|(simp only[List.length_append,List.length_singleton];rfl)|simp only[List.length_append,List.length_singleton])
    ·refine go 9 ?_;refine a0o ?_;refine a0b ?_;refine a0N ?_;refine a0N ?_;refine a0N ?_;refine a1c ?_;refine a0N ?_;exact a1T (i+1) (_) (_) (_) (out++[x]) ⟨by omega,c9J hlt hw h17 h27 h42,hF.append (.one hr)⟩ (by omega) rfl sb (by first|rfl|(simp only[List.length_append,List.length_singleton];rfl)|simp only[List.length_append,List.length_singleton])
   ·refine go 3 ?_;refine a0F T.mixed ?_;refine a0e 0 rfl rfl (by kernel_rfl) rfl (.refl _) rfl (a0g he rfl) ?_;refine a0e 1 rfl rfl (by kernel_rfl) rfl (.refl _) rfl (a2H m4 he rfl rfl) ?_;refine a0e 2 rfl rfl (by kernel_rfl) rfl (.refl _) rfl (a0a rfl) ?_;obtain⟨b37,o37,w37,e37,c37,r37⟩:=RdA.at_ hA (i:=i) hlt;obtain⟨q37,rfl,B37,d37,rfl,hB37,hd37,hm37⟩:=r37;refine a0e 3 rfl rfl (by kernel_rfl) rfl (.refl _) rfl (a0h he rfl rfl e37 (i) (by omega) hlt) ?_;refine a0e 4 rfl rfl (by kernel_rfl) rfl (.refl _) rfl (a0g he rfl) ?_;refine a0e 5 rfl rfl (by kernel_rfl) rfl (.refl _) rfl (a0K he rfl (c37 0 _ rfl)) ?_;refine a0e 6 rfl rfl (by kernel_rfl) rfl (.refl _) rfl (a0g he rfl) ?_;refine a0e 7 rfl rfl (by kernel_rfl) rfl (.refl _) rfl (a2H m3 he rfl rfl) ?_;refine a0e 8 rfl rfl (by kernel_rfl) rfl (.refl _) rfl (b1a rfl rfl) ?_;refine a0n (by kernel_rfl) ?_;refine go 1 ?_;refine cb rfl (fun h42 p42=>?_) (fun h42 p42=>?_)
    ·refine a0f ?_;refine a0f ?_;refine a8A T.mixed ?_;refine a0e 0 rfl rfl (by kernel_rfl) rfl (.cons _ (.cons _ (.refl _))) rfl (a0g he rfl) ?_;refine a0e 2 rfl rfl (by kernel_rfl) rfl (.cons _ (.cons _ (.refl _))) rfl (a0g he rfl) ?_;refine a0e 3 rfl rfl (by kernel_rfl) rfl (.cons _ (.cons _ (.refl _))) rfl (a2H m2 he rfl rfl) ?_;refine a0e 4 rfl rfl (by kernel_rfl) rfl (.cons _ (.cons _ (.refl _))) rfl (a0a rfl) ?_;obtain⟨b48,o48,w48,e48,c48,r48⟩:=RdA.at_ hA (i:=i) hlt;obtain⟨q48,rfl,B48,d48,rfl,hB48,hd48,hm48⟩:=r48;refine a0e 5 rfl rfl (by kernel_rfl) rfl (.cons _ (.cons _ (.refl _))) rfl (a0h he rfl rfl e48 (i) (by omega) hlt) ?_;refine a0e 6 rfl rfl (by kernel_rfl) rfl (.cons _ (.cons _ (.refl _))) rfl (a0G he rfl c48 rfl) ?_;refine a3O 1 7 (by kernel_rfl) rfl rfl ?_ ?_
     ·refine a0t rfl (a2H m1 he rfl rfl) ?_;refine a0D (fun _ m=>m.keeps (.cons _ (.cons _ (.refl _)))) ?_;refine a0m 7 (by kernel_rfl) rfl ?_;refine a0c he he rfl rfl rfl rfl rfl rfl rfl (fun v50=>?_);refine a0D (fun _ m=>m.keeps (.cons _ (.cons _ (.cons _ (.refl _))))) ?_;refine a0m 8 (by kernel_rfl) rfl ?_;refine a0f ?_;refine a0v he he rfl rfl rfl rfl rfl (by omega) (by omega) rfl (fun v51=>?_);refine a5B (fun u=>?_);refine a0D (fun _ m=>m.keeps (.cons _ (.cons _ (.cons _ (.refl _))))) ?_;refine a0e 9 rfl rfl (by kernel_rfl) rfl (.cons _ (.cons _ (.cons _ (.refl _)))) rfl (a0g he rfl) ?_;refine a0m 10 (by kernel_rfl) rfl ?_;refine a0o ?_;refine a2f he rfl rfl u rfl ?_;refine a0D (fun _ m=>m.keeps (.cons _ (.cons _ (.cons _ (.refl _))))) ?_;refine a0n (by kernel_rfl) ?_;refine go 8 ?_;refine a0o ?_;refine a0b ?_;refine a0N ?_;refine a0N ?_;refine a0N ?_;refine a1c ?_;refine a0N ?_;exact a1T (i+1) (_) (_) (_) (out++[l[i]]) ⟨by omega,b8b hlt hw (by rw[h17,h27];rfl) h42,hF.append (.one ⟨_,rfl,B48,d48,rfl,hB48,hd48,hm48⟩)⟩ (by omega) rfl sb (by first|rfl|(simp only[List.length_append,List.length_singleton];rfl)|simp only[List.length_append,List.length_singleton])
     ·refine a0c he he rfl rfl rfl rfl rfl rfl rfl (fun v50=>?_);refine a0D (fun _ m=>m.keeps (.cons _ (.cons _ (.cons _ (.refl _))))) ?_;refine a0m 1 (by kernel_rfl) rfl ?_;refine a0t rfl (a2H m2 he rfl rfl) ?_;refine a0D (fun _ m=>m.keeps (.cons _ (.cons _ (.cons _ (.refl _))))) ?_;refine a0m 8 (by kernel_rfl) rfl ?_;refine a0f ?_;refine a0v he he rfl rfl rfl rfl rfl (by omega) (by omega) rfl (fun v51=>?_);refine a5B (fun u=>?_);refine a0D (fun _ m=>m.keeps (.cons _ (.cons _ (.cons _ (.refl _))))) ?_;refine a0e 9 rfl rfl (by kernel_rfl) rfl (.cons _ (.cons _ (.cons _ (.refl _)))) rfl (a0g he rfl) ?_;refine a0m 10 (by kernel_rfl) rfl ?_;refine a0o ?_;refine a2f he rfl rfl u rfl ?_;refine a0D (fun _ m=>m.keeps (.cons _ (.cons _ (.cons _ (.refl _))))) ?_;refine a0n (by kernel_rfl) ?_;refine go 8 ?_;refine a0o ?_;refine a0b ?_;refine a0N ?_;refine a0N ?_;refine a0N ?_;refine a1c ?_;refine a0N ?_;exact a1T (i+1) (_) (_) (_) (out++[l[i]]) ⟨by omega,b8b hlt hw (by rw[h17,h27];rfl) h42,hF.append (.one ⟨_,rfl,B48,d48,rfl,hB48,hd48,hm48⟩)⟩ (by omega) rfl sb (by first|rfl|(simp only[List.length_append,List.length_singleton];rfl)|simp only[List.length_append,List.length_singleton])
    ·refine go 9 ?_;exact a1T (i+1) (_) (_) (_) (out) ⟨by omega,c4f hlt hw (by rw[h17,h27];rfl) h42,hF⟩ (by omega) rfl sb (by first|rfl|(simp only[List.length_append,List.length_singleton];rfl)|simp only[List.length_append,List.length_singleton])
  ·refine d_t 3 rfl rfl (by kernel_rfl) rfl (fun _ m=>m.keeps (.refl _)) (a0A rfl rfl h17) ?_;refine d_t 4 rfl rfl (by kernel_rfl) rfl (fun _ m=>m.keeps (.refl _)) (a0A rfl rfl h17) ?_;refine d_t 5 rfl rfl (by kernel_rfl) rfl (fun _ m=>m.keeps (.refl _)) (a0A rfl rfl h17) ?_;refine d_t 6 rfl rfl (by kernel_rfl) rfl (fun _ m=>m.keeps (.refl _)) (a0A rfl rfl h17) ?_;refine d_t 7 rfl rfl (by kernel_rfl) rfl (fun _ m=>m.keeps (.refl _)) (a0A rfl rfl h17) ?_;refine d_t 8 rfl rfl (by kernel_rfl) rfl (fun _ m=>m.keeps (.refl _)) (a0A rfl rfl h17) ?_;refine d_t 9 rfl rfl (by kernel_rfl) rfl (fun _ m=>m.keeps (.refl _)) (a0A rfl rfl h17) ?_;refine d_t 10 rfl rfl (by kernel_rfl) rfl (fun _ m=>m.keeps (.refl _)) (a0A rfl rfl h17) ?_;refine d_t 11 rfl rfl (by kernel_rfl) rfl (fun _ m=>m.keeps (.refl _)) (a0A rfl rfl h17) ?_;refine a0e 12 rfl rfl (by kernel_rfl) rfl (.refl _) rfl (a3K h17 rfl) ?_;refine a0n (by kernel_rfl) ?_;refine go 1 ?_;refine a0T rfl ?_;refine go 3 ?_;refine a0F T.mixed ?_;refine a0e 0 rfl rfl (by kernel_rfl) rfl (.refl _) rfl (a0g he rfl) ?_;refine a0e 1 rfl rfl (by kernel_rfl) rfl (.refl _) rfl (a2H m4 he rfl rfl) ?_;refine a0e 2 rfl rfl (by kernel_rfl) rfl (.refl _) rfl (a0a rfl) ?_;obtain⟨b37,o37,w37,e37,c37,r37⟩:=RdA.at_ hA (i:=i) hlt;obtain⟨q37,rfl,B37,d37,rfl,hB37,hd37,hm37⟩:=r37;refine a0e 3 rfl rfl (by kernel_rfl) rfl (.refl _) rfl (a0h he rfl rfl e37 (i) (by omega) hlt) ?_;refine a0e 4 rfl rfl (by kernel_rfl) rfl (.refl _) rfl (a0g he rfl) ?_;refine a0e 5 rfl rfl (by kernel_rfl) rfl (.refl _) rfl (a0K he rfl (c37 0 _ rfl)) ?_;refine a0e 6 rfl rfl (by kernel_rfl) rfl (.refl _) rfl (a0g he rfl) ?_;refine a0e 7 rfl rfl (by kernel_rfl) rfl (.refl _) rfl (a2H m3 he rfl rfl) ?_;refine a0e 8 rfl rfl (by kernel_rfl) rfl (.refl _) rfl (b1a rfl rfl) ?_;refine a0n (by kernel_rfl) ?_;refine go 1 ?_;refine cb rfl (fun h42 p42=>?_) (fun h42 p42=>?_)
   ·refine a0f ?_;refine a0f ?_;refine a8A T.mixed ?_;refine a0e 0 rfl rfl (by kernel_rfl) rfl (.cons _ (.cons _ (.refl _))) rfl (a0g he rfl) ?_;refine a0e 2 rfl rfl (by kernel_rfl) rfl (.cons _ (.cons _ (.refl _))) rfl (a0g he rfl) ?_;refine a0e 3 rfl rfl (by kernel_rfl) rfl (.cons _ (.cons _ (.refl _))) rfl (a2H m2 he rfl rfl) ?_;refine a0e 4 rfl rfl (by kernel_rfl) rfl (.cons _ (.cons _ (.refl _))) rfl (a0a rfl) ?_;obtain⟨b48,o48,w48,e48,c48,r48⟩:=RdA.at_ hA (i:=i) hlt;obtain⟨q48,rfl,B48,d48,rfl,hB48,hd48,hm48⟩:=r48;refine a0e 5 rfl rfl (by kernel_rfl) rfl (.cons _ (.cons _ (.refl _))) rfl (a0h he rfl rfl e48 (i) (by omega) hlt) ?_;refine a0e 6 rfl rfl (by kernel_rfl) rfl (.cons _ (.cons _ (.refl _))) rfl (a0G he rfl c48 rfl) ?_;refine a3O 1 7 (by kernel_rfl) rfl rfl ?_ ?_
    ·refine a0t rfl (a2H m1 he rfl rfl) ?_;refine a0D (fun _ m=>m.keeps (.cons _ (.cons _ (.refl _)))) ?_;refine a0m 7 (by kernel_rfl) rfl ?_;refine a0c he he rfl rfl rfl rfl rfl rfl rfl (fun v50=>?_);refine a0D (fun _ m=>m.keeps (.cons _ (.cons _ (.cons _ (.refl _))))) ?_;refine a0m 8 (by kernel_rfl) rfl ?_;refine a0f ?_;refine a0v he he rfl rfl rfl rfl rfl (by omega) (by omega) rfl (fun v51=>?_);refine a5B (fun u=>?_);refine a0D (fun _ m=>m.keeps (.cons _ (.cons _ (.cons _ (.refl _))))) ?_;refine a0e 9 rfl rfl (by kernel_rfl) rfl (.cons _ (.cons _ (.cons _ (.refl _)))) rfl (a0g he rfl) ?_;refine a0m 10 (by kernel_rfl) rfl ?_;refine a0o ?_;refine a2f he rfl rfl u rfl ?_;refine a0D (fun _ m=>m.keeps (.cons _ (.cons _ (.cons _ (.refl _))))) ?_;refine a0n (by kernel_rfl) ?_;refine go 8 ?_;refine a0o ?_;refine a0b ?_;refine a0N ?_;refine a0N ?_;refine a0N ?_;refine a1c ?_;refine a0N ?_;exact a1T (i+1) (_) (_) (_) (out++[l[i]]) ⟨by omega,b8b hlt hw (by rw[h17];rfl) h42,hF.append (.one ⟨_,rfl,B48,d48,rfl,hB48,hd48,hm48⟩)⟩ (by omega) rfl sb (by first|rfl|(simp only[List.length_append,List.length_singleton];rfl)|simp only[List.length_append,List.length_singleton])
    ·refine a0c he he rfl rfl rfl rfl rfl rfl rfl (fun v50=>?_);refine a0D (fun _ m=>m.keeps (.cons _ (.cons _ (.cons _ (.refl _))))) ?_;refine a0m 1 (by kernel_rfl) rfl ?_;refine a0t rfl (a2H m2 he rfl rfl) ?_;refine a0D (fun _ m=>m.keeps (.cons _ (.cons _ (.cons _ (.refl _))))) ?_;refine a0m 8 (by kernel_rfl) rfl ?_;refine a0f ?_;refine a0v he he rfl rfl rfl rfl rfl (by omega) (by omega) rfl (fun v51=>?_);refine a5B (fun u=>?_);refine a0D (fun _ m=>m.keeps (.cons _ (.cons _ (.cons _ (.refl _))))) ?_;refine a0e 9 rfl rfl (by kernel_rfl) rfl (.cons _ (.cons _ (.cons _ (.refl _)))) rfl (a0g he rfl) ?_;refine a0m 10 (by kernel_rfl) rfl ?_;refine a0o ?_;refine a2f he rfl rfl u rfl ?_;refine a0D (fun _ m=>m.keeps (.cons _ (.cons _ (.cons _ (.refl _))))) ?_;refine a0n (by kernel_rfl) ?_;refine go 8 ?_;refine a0o ?_;refine a0b ?_;refine a0N ?_;refine a0N ?_;refine a0N ?_;refine a1c ?_;refine a0N ?_;exact a1T (i+1) (_) (_) (_) (out++[l[i]]) ⟨by omega,b8b hlt hw (by rw[h17];rfl) h42,hF.append (.one ⟨_,rfl,B48,d48,rfl,hB48,hd48,hm48⟩)⟩ (by omega) rfl sb (by first|rfl|(simp only[List.length_append,List.length_singleton];rfl)|simp only[List.length_append,List.length_singleton])
   ·refine go 9 ?_;exact a1T (i+1) (_) (_) (_) (out) ⟨by omega,c4f hlt hw (by rw[h17];rfl) h42,hF⟩ (by omega) rfl sb (by first|rfl|(simp only[List.length_append,List.length_singleton];rfl)|simp only[List.length_append,List.length_singleton])
 ·have e:i=l.length:=(by omega)
  subst e;rw[List.take_length]at hw
  refine a5B (fun u=>?_);refine go 12 ?_;refine cb rfl (fun h54 p54=>?_) (fun h54 p54=>?_)
  ·refine go 5 ?_;refine a0c he he rfl rfl rfl rfl rfl rfl rfl (fun v58=>?_);refine go 1 ?_;refine a0f ?_;refine a0v he he rfl rfl rfl rfl rfl (by omega) (by omega) rfl (fun v59=>?_);refine a5B (fun u=>?_);refine go 2 ?_;refine a0o ?_;refine a2f he rfl rfl u rfl ?_;refine go 6 ?_;refine a1c ?_;refine a0p _ he rfl rfl rfl rfl rfl (c0H u) ?_;refine go 3 ?_;refine a0s rfl ⟨_,_,_,rfl,m0,.inr ⟨_,he,rfl,rfl⟩⟩ ?_;refine a0b ?_;refine a0b ?_;refine a0f ?_;refine a0b ?_;refine a0f ?_;refine a0b ?_;refine a0f ?_;refine a0b ?_;refine a0l (l:=out++[x]) rfl (by simp) (hF.append (.one hr)) (fun I9 j9 R9=>?_);exact q_i ⟨_,rfl,by rw[c5l hw h54];exact R9⟩
  ·refine go 6 ?_;refine a0o ?_;refine a0p _ he rfl rfl rfl rfl rfl (c0H u) ?_;refine go 3 ?_;refine a0s rfl ⟨_,_,_,rfl,m0,.inr ⟨_,he,rfl,rfl⟩⟩ ?_;refine a0b ?_;refine a0f ?_;refine a0b ?_;refine a0f ?_;refine a0b ?_;refine a0f ?_;refine a0b ?_;refine a0l (l:=out) rfl rfl hF (fun I9 j9 R9=>?_);exact q_i ⟨_,rfl,by rw[c5k hw h54];exact R9⟩
theorem c0v (I:IMap) (v:Value) (l:List Prp) (hv:RdS I v l) (hl:l.length≤1000000) (s t:ByteArray) :
    FnI Tryz.prog 311 #[v,.string s,.string t] I (fun u J=>RdS J u (b2y Prp.key ⟨s,t⟩ l)):=by
 obtain⟨A,c0,rfl,hA,hc,hm⟩:=hv;refine enter Tryz.func311 Tryz.call311 rfl Tryz.ntmps311 rfl (fun w0=>?_);refine go 7 ?_;refine a1f 231 2 ?_;refine go 15 ?_
 refine a5x ((0:Nat)) (_) ([]) (_) ([]) (fun i v xs b out=>I)
  (fun i v xs b out=>[(0,.slice A l.length c0),(1,.string s),(2,.string t),(7,v),(8,.bool b),(9,.int .i64 ((i:Nat):Int))])
  (fun i v xs b out=>[.row v 231 2 out.length xs])
  (fun i v xs b out=>i≤l.length∧wF Prp.key ⟨s,t⟩ (l.take i)=(out,b)∧Flat I xs out)
  (fun i v xs b out=>l.length-i) ⟨Nat.zero_le _,rfl,.nil⟩ rfl sb rfl ?_
 intro i v xs b out ⟨hi,hw,hF⟩
 have hol:=d0P hw
 refine go 9 ?_;refine cb rfl (fun h13 p13=>?_) (fun h13 p13=>?_)
 ·have hlt:i<l.length:=by omega
  refine go 10 ?_;refine sxb 18 rfl (fun h18 p18=>?_) (fun h18 p18=>?_)
  ·refine go 2 ?_;obtain⟨b21,o21,w21,e21,c21,r21⟩:=RdA.at_ hA (i:=i) hlt;obtain rfl:=r21;refine a1d (a0R rfl rfl h18 (a0t rfl (a0h he rfl rfl e21 (i) (by omega) hlt) ?_));refine go 1 ?_;refine a1d (a0R rfl rfl h18 (a0t rfl (a0K he rfl (c21 0 _ rfl)) ?_));refine go 5 ?_;refine cb rfl (fun h26 p26=>?_) (fun h26 p26=>?_)
   ·refine go 6 ?_;refine a0t rfl (a0H (pl:=[(0,1),(1,1)]) he he rfl rfl) ?_;refine go 1 ?_;refine a0c he he rfl rfl rfl rfl rfl rfl rfl (fun v31=>?_);refine go 1 ?_;refine a0f ?_;refine a0v he he rfl rfl rfl rfl rfl (by omega) (by omega) rfl (fun v32=>?_);refine go 11 ?_;obtain⟨b35,o35,w35,e35,c35,r35⟩:=RdA.at_ hA (i:=i) hlt;obtain rfl:=r35;refine o_v rfl (a0h he rfl rfl e35 (i) (by omega) hlt) ?_;refine go 1 ?_;refine o_v rfl (a0K he rfl (c35 0 _ rfl)) ?_;refine go 4 ?_;refine cb rfl (fun h39 p39=>?_) (fun h39 p39=>?_)
    ·refine go 4 ?_;obtain⟨b43,o43,w43,e43,c43,r43⟩:=RdA.at_ hA (i:=i) hlt;obtain rfl:=r43;refine o_v rfl (a0h he rfl rfl e43 (i) (by omega) hlt) ?_;refine o_v rfl (a0G he rfl c43 rfl) ?_;refine go 1 ?_;refine a0c he he rfl rfl rfl rfl rfl rfl rfl (fun v45=>?_);refine go 1 ?_;refine a0f ?_;refine a0v he he rfl rfl rfl rfl rfl (by omega) (by omega) rfl (fun v46=>?_);refine go 10 ?_;refine a0f ?_;refine a0b ?_;refine a0f ?_;refine a0b ?_;exact a1T (i+1) (_) (_) (_) (out++[⟨s,t⟩]++[l[i]]) ⟨by omega,c7D hlt hw h18 h26 h39,(hF.append (.one rfl)).append (.one rfl)⟩ (by omega) rfl sb (by first|rfl|(simp only[List.length_append,List.length_singleton];rfl)|simp only[List.length_append,List.length_singleton])
    ·refine go 9 ?_;refine a0f ?_;refine a0b ?_;exact a1T (i+1) (_) (_) (_) (out++[⟨s,t⟩]) ⟨by omega,c9J hlt hw h18 h26 h39,hF.append (.one rfl)⟩ (by omega) rfl sb (by first|rfl|(simp only[List.length_append,List.length_singleton];rfl)|simp only[List.length_append,List.length_singleton])
   ·refine go 6 ?_;obtain⟨b35,o35,w35,e35,c35,r35⟩:=RdA.at_ hA (i:=i) hlt;obtain rfl:=r35;refine o_v rfl (a0h he rfl rfl e35 (i) (by omega) hlt) ?_;refine go 1 ?_;refine o_v rfl (a0K he rfl (c35 0 _ rfl)) ?_;refine go 4 ?_;refine cb rfl (fun h39 p39=>?_) (fun h39 p39=>?_)
    ·refine go 4 ?_;obtain⟨b43,o43,w43,e43,c43,r43⟩:=RdA.at_ hA (i:=i) hlt;obtain rfl:=r43;refine o_v rfl (a0h he rfl rfl e43 (i) (by omega) hlt) ?_;refine o_v rfl (a0G he rfl c43 rfl) ?_;refine go 1 ?_;refine a0c he he rfl rfl rfl rfl rfl rfl rfl (fun v45=>?_);refine go 1 ?_;refine a0f ?_;refine a0v he he rfl rfl rfl rfl rfl (by omega) (by omega) rfl (fun v46=>?_);refine go 10 ?_;refine a0f ?_;refine a0b ?_;exact a1T (i+1) (_) (_) (_) (out++[l[i]]) ⟨by omega,b8b hlt hw (by rw[h18,h26];rfl) h39,hF.append (.one rfl)⟩ (by omega) rfl sb (by first|rfl|(simp only[List.length_append,List.length_singleton];rfl)|simp only[List.length_append,List.length_singleton])
    ·refine go 9 ?_;exact a1T (i+1) (_) (_) (_) (out) ⟨by omega,c4f hlt hw (by rw[h18,h26];rfl) h39,hF⟩ (by omega) rfl sb (by first|rfl|(simp only[List.length_append,List.length_singleton];rfl)|simp only[List.length_append,List.length_singleton])
  ·refine go 10 ?_;refine a0T rfl ?_;refine go 6 ?_;obtain⟨b35,o35,w35,e35,c35,r35⟩:=RdA.at_ hA (i:=i) hlt;obtain rfl:=r35;refine o_v rfl (a0h he rfl rfl e35 (i) (by omega) hlt) ?_;refine go 1 ?_;refine o_v rfl (a0K he rfl (c35 0 _ rfl)) ?_;refine go 4 ?_;refine cb rfl (fun h39 p39=>?_) (fun h39 p39=>?_)
   ·refine go 4 ?_;obtain⟨b43,o43,w43,e43,c43,r43⟩:=RdA.at_ hA (i:=i) hlt;obtain rfl:=r43;refine o_v rfl (a0h he rfl rfl e43 (i) (by omega) hlt) ?_;refine o_v rfl (a0G he rfl c43 rfl) ?_;refine go 1 ?_;refine a0c he he rfl rfl rfl rfl rfl rfl rfl (fun v45=>?_);refine go 1 ?_;refine a0f ?_;refine a0v he he rfl rfl rfl rfl rfl (by omega) (by omega) rfl (fun v46=>?_);refine go 10 ?_;refine a0f ?_;refine a0b ?_;exact a1T (i+1) (_) (_) (_) (out++[l[i]]) ⟨by omega,b8b hlt hw (by rw[h18];rfl) h39,hF.append (.one rfl)⟩ (by omega) rfl sb (by first|rfl|(simp only[List.length_append,List.length_singleton];rfl)|simp only[List.length_append,List.length_singleton])
   ·refine go 9 ?_;exact a1T (i+1) (_) (_) (_) (out) ⟨by omega,c4f hlt hw (by rw[h18];rfl) h39,hF⟩ (by omega) rfl sb (by first|rfl|(simp only[List.length_append,List.length_singleton];rfl)|simp only[List.length_append,List.length_singleton])
 ·have e:i=l.length:=(by omega)
  subst e;rw[List.take_length]at hw
  refine go 12 ?_;refine cb rfl (fun h48 p48=>?_) (fun h48 p48=>?_)
  ·refine go 5 ?_;refine a0t rfl (a0H (pl:=[(0,1),(1,1)]) he he rfl rfl) ?_;refine go 1 ?_;refine a0c he he rfl rfl rfl rfl rfl rfl rfl (fun v53=>?_);refine go 1 ?_;refine a0f ?_;refine a0v he he rfl rfl rfl rfl rfl (by omega) (by omega) rfl (fun v54=>?_);refine go 10 ?_;refine a0s rfl rfl ?_;refine a0f ?_;refine a0b ?_;refine a0l (l:=out++[(⟨s,t⟩:Prp)]) rfl (by simp) (hF.append (.one rfl)) (fun I9 j9 R9=>?_);exact q_i (by rw[c5l hw h48];exact R9)
  ·refine go 9 ?_;refine a0s rfl rfl ?_;refine a0l (l:=out) rfl rfl hF (fun I9 j9 R9=>?_);exact q_i (by rw[c5k hw h48];exact R9)
theorem b3n (I:IMap) (v:Value) (l:List Part) (hv:RdS I v l) (s t:ByteArray) :
    FnV Tryz.prog 310 #[.agg #[v],.string s,.string t] I (.bool (b9n l s t)):=by
 obtain⟨A,c0,rfl,hA,hc,hm⟩:=hv;refine enter Tryz.func310 Tryz.call310 rfl Tryz.ntmps310 rfl (fun w0=>?_);refine go 3 ?_;refine a0B _ rfl rfl rfl (fun g3=>?_);refine go 10 ?_
 refine a0Q (α:=Nat) 0 (fun i=>I)
  (fun i=>[(1,.string s),(2,.string t),(3,.pointer (some ⟨g3,0,none⟩)),(7,.int .i64 ((i:Nat):Int))])
  (fun i=>[.blk g3 53 [.slice A l.length c0]])
  (fun i=>i≤l.length∧∀j x,j<i→l[j]? = some x→(fun x:Part=>decide (x.into=s)&&(decide (t=a0Z)||decide (x.slot=t))) x=false)
  (fun i=>l.length-i) ⟨Nat.zero_le _,fun j x hj=>absurd hj (Nat.not_lt_zero j)⟩ rfl sb rfl ?_
 intro i ⟨hi,hn⟩;refine go 10 ?_;refine cb rfl (fun h12 p12=>?_) (fun h12 p12=>?_)
 ·have hlt:i<l.length:=by omega
  refine go 5 ?_;refine a2I (I':=I) (L':=[(1,.string s),(2,.string t),(3,.pointer (some ⟨g3,0,none⟩)),(7,.int .i64 ((i:Nat):Int)),(36,.bool (decide (l[i].into=s)&&(decide (t=a0Z)||decide (l[i].slot=t))))]) (H':=[.blk g3 53 [.slice A l.length c0]]) ?_ ?_
  ·refine go 4 ?_;obtain⟨b18,o18,w18,e18,c18,r18⟩:=RdA.at_ hA (i:=i) hlt;obtain⟨q18,rfl,B18,d18,rfl,hB18,hd18,hm18⟩:=r18;refine o_v rfl (a0h he rfl rfl e18 (i) (by omega) hlt) ?_;refine go 1 ?_;refine o_v rfl (a0K he rfl (c18 2 _ rfl)) ?_;refine go 3 ?_;refine sxb 23 rfl (fun h23 p23=>?_) (fun h23 p23=>?_)
   ·refine go 3 ?_;refine sxb 26 rfl (fun h26 p26=>?_) (fun h26 p26=>?_)
    ·refine go 12 ?_;exact a0L ⟨rfl,rfl,rfl,rfl,(congrArg (fun b=>some (Value.bool b)) (by simp only[h12,h23,h26,bS])),trivial⟩ rfl rfl
    ·refine go 3 ?_;obtain⟨b30,o30,w30,e30,c30,r30⟩:=RdA.at_ hA (i:=i) hlt;obtain⟨q30,rfl,B30,d30,rfl,hB30,hd30,hm30⟩:=r30;refine a1d (a0R rfl rfl h26 (a0t rfl (a0h he rfl rfl e30 (i) (by omega) hlt) ?_));refine go 1 ?_;refine a1d (a0R rfl rfl h26 (a0t rfl (a0K he rfl (c30 3 _ rfl)) ?_));refine go 6 ?_;exact a0L ⟨rfl,rfl,rfl,rfl,(congrArg (fun b=>some (Value.bool b)) (by simp only[h12,h23,h26,bS])),trivial⟩ rfl rfl
   ·refine go 15 ?_;exact a0L ⟨rfl,rfl,rfl,rfl,(congrArg (fun b=>some (Value.bool b)) (by simp only[h12,h23,bS])),trivial⟩ rfl rfl
  ·refine cb rfl (fun h36 p36=>?_) (fun h36 p36=>?_)
   ·refine go 11 ?_;refine a0s rfl rfl ?_;exact q_v (congrArg Value.bool (List.any_eq_true.2 ⟨l[i],List.getElem_mem hlt,h36⟩).symm)
   ·refine go 9 ?_;exact a0M (i+1) ⟨by omega,a2V (p:=(fun x:Part=>decide (x.into=s)&&(decide (t=a0Z)||decide (x.slot=t)))) hn hlt h36⟩ (by omega) rfl sb rfl
 ·refine go 11 ?_;refine a0s rfl rfl ?_;exact q_v (congrArg Value.bool (c1T (fun j x hj=>hn j x (by omega))).symm)
theorem b7O (I:IMap) (v:Value) (l:List Part) (hv:RdS I v l) (e:Evt) (h:e.slot≠a0Z):FnV Tryz.prog 310 #[.agg #[v],.string e.into,.string e.slot] I (.bool (a1e l e)):=by
 have:=b3n I v l hv e.into e.slot
 rwa[b9o l e h]at this
theorem b7N (I:IMap) (v:Value) (l:List Part) (hv:RdS I v l) (s:ByteArray):FnV Tryz.prog 310 #[.agg #[v],.string s,.string ⟨#[]⟩] I (.bool (a1l l s)):=by
 have:=b3n I v l hv s a0Z
 rwa[c2A l s]at this
theorem c0w (I:IMap) (vc:Value) (c:List Kind) (hvc:RdS I vc c) (hsc:SmC c) (v:Value) (l:List Part) (hv:RdS I v l) (hsf:SmF l) (e:Evt) (hse:SmE e) (hV:a2T c l=true) (hE:a1t e=true) :
    FnI Tryz.prog 254 #[.agg #[vc],.agg #[v],.agg e.cells.toArray] I (fun u J=>StIs J (a0q c l e) u):=by
 have hA0:(!a2T c l || !a1t e)=false:=by rw[hV,hE];rfl
 obtain⟨hsrt,hlen⟩:=b1b hV
 have hl6:l.length≤1000000:=by omega
 have hv0:=hv
 obtain⟨A,c0,rfl,hA,hc,hm⟩:=hv;refine enter Tryz.func254 Tryz.call254 rfl Tryz.ntmps254 rfl (fun w0=>?_);refine go 3 ?_;refine a0B _ rfl rfl rfl (fun g3=>?_);refine go 1 ?_;refine a0B _ rfl rfl rfl (fun g4=>?_);refine go 1 ?_;refine a0B _ rfl rfl rfl (fun g5=>?_);refine go 1 ?_;refine a0j he rfl (fun g6=>?_);refine go 9 ?_;refine a0d (a9I _ _ l hv0 e.part) rfl rfl ?_;refine go 11 ?_;refine cb rfl (fun h22 p22=>?_) (fun h22 p22=>?_)
 ·refine go 6 ?_;refine a2p (a6C _ vc c hvc e.kind) rfl rfl (fun v27 q27=>?_);obtain⟨vs13,rfl,s13,rfl,hs13⟩:=q27;refine go 4 ?_;refine a0j he rfl (fun g9=>?_);refine go 1 ?_;refine a0p _ he rfl rfl rfl rfl rfl (Enc.one (α:=Kind) (I:=I) (x:=(a2y c e.kind).getD a4M) ⟨s13,rfl,hs13⟩) ?_;refine go 10 ?_;refine cb rfl (fun h31 p31=>?_) (fun h31 p31=>?_)
  ·have hS1:(a0E l e.part).isSome=true:=(by rw[←a5y];exact h31)
   refine go 3 ?_;refine a0t rfl (a0H (pl:=[(0,1)]) he he rfl rfl) ?_;refine go 1 ?_;refine a0f ?_;refine a0p _ he rfl rfl rfl rfl rfl rfl ?_;refine go 6 ?_;refine a1F rfl ⟨_,_,_,rfl,m0,.inr ⟨_,he,rfl,rfl⟩⟩ rfl ?_;exact q_i (StIs.fail (by simp only[a0q,hA0,p22,a2n,hS1,Bool.true_eq_false,decide_true,decide_false,Int.reduceEq,reduceIte,if_true,if_false,Bool.false_eq_true,not_true,not_false_eq_true,bS]))
  ·have hS1:(a0E l e.part).isSome=false:=(by rw[←a5y];exact h31)
   refine go 9 ?_;refine cb rfl (fun h34 p34=>?_) (fun h34 p34=>?_)
   ·refine go 3 ?_;refine a0t rfl (a0H (pl:=[(0,1)]) he he rfl rfl) ?_;refine go 1 ?_;refine a0f ?_;refine a0p _ he rfl rfl rfl rfl rfl rfl ?_;refine go 6 ?_;refine a1F rfl ⟨_,_,_,rfl,m0,.inr ⟨_,he,rfl,rfl⟩⟩ rfl ?_;exact q_i (StIs.fail (by simp only[a0q,hA0,p22,a2n,hS1,p34,Bool.true_eq_false,decide_true,decide_false,Int.reduceEq,reduceIte,if_true,if_false,Bool.false_eq_true,not_true,not_false_eq_true,bS]))
   ·refine go 11 ?_;refine cb rfl (fun h39 p39=>?_) (fun h39 p39=>?_)
    ·have hL:((l.length:Nat):Int)=20000:=by omega
     refine go 3 ?_;refine a0t rfl (a0H (pl:=[(0,1)]) he he rfl rfl) ?_;refine go 1 ?_;refine a0f ?_;refine a0p _ he rfl rfl rfl rfl rfl rfl ?_;refine go 6 ?_;refine a1F rfl ⟨_,_,_,rfl,m0,.inr ⟨_,he,rfl,rfl⟩⟩ rfl ?_;exact q_i (StIs.fail (by simp only[a0q,hA0,p22,a2n,hS1,p34,hL,Bool.true_eq_false,decide_true,decide_false,Int.reduceEq,reduceIte,if_true,if_false,Bool.false_eq_true,not_true,not_false_eq_true,bS]))
    ·have hL:¬((l.length:Nat):Int)=20000:=by omega
     refine go 14 ?_;refine a0t rfl (a0H (pl:=[(0,1),(1,1),(2,1),(3,1),(4,1),(5,1),(6,1),(7,1),(8,6)]) he he rfl rfl) ?_;refine go 1 ?_;refine a0O (b3o _ _ l hv0 hl6 (c2R e) none 0 ⟨_,rfl,RdS.nil'⟩) rfl rfl (fun v51 I51 j51 q51=>?_);obtain⟨w51,rfl,hw51⟩:=q51;refine go 1 ?_;refine a0f ?_;refine a0p _ he rfl rfl rfl rfl rfl (by simp[hw51.one]) ?_;refine go 5 ?_;refine a1F rfl ⟨_,_,_,rfl,m0,.inr ⟨_,he,rfl,rfl⟩⟩ rfl ?_;rw[b2z (b5w hsrt)]at hw51
     exact q_i (StIs.put (by simp only[a0q,hA0,p22,a2n,hS1,p34,hL,Bool.true_eq_false,decide_true,decide_false,Int.reduceEq,reduceIte,if_true,if_false,Bool.false_eq_true,not_true,not_false_eq_true,bS]) hw51)
 ·refine go 9 ?_;refine a2I (I':=I) (L':=[(3,.pointer (some ⟨g3,0,none⟩)),(4,.pointer (some ⟨g4,0,none⟩)),(5,.pointer (some ⟨g5,0,none⟩)),(6,.pointer (some ⟨g6,0,none⟩)),(8,.int .i64 (a5f (fun p:Part=>decide (p.name=e.part)) l)),(11,.int .i64 (a5f (fun p:Part=>decide (p.name=(b3f e))) l))]) (H':=[.blk g6 53 [.slice none 0 0],.blk g5 96 e.cells,.blk g4 53 [.slice A l.length c0],.blk g3 24 [vc]]) ?_ ?_
  ·refine go 7 ?_;refine cb rfl (fun h55 p55=>?_) (fun h55 p55=>?_)
   ·refine go 5 ?_;refine a0d (a9I _ _ l hv0 e.into) rfl rfl ?_;refine go 3 ?_;exact a0L ⟨rfl,rfl,rfl,rfl,rfl,(congrArg (fun s=>some (Value.int .i64 (a5f (fun p:Part=>decide (p.name=s)) l))) (by first|exact (if_pos p55).symm|exact (if_neg p55).symm)),trivial⟩ rfl rfl
   ·refine go 2 ?_;exact a0L ⟨rfl,rfl,rfl,rfl,rfl,(congrArg (fun s=>some (Value.int .i64 (a5f (fun p:Part=>decide (p.name=s)) l))) (by first|exact (if_pos p55).symm|exact (if_neg p55).symm)),trivial⟩ rfl rfl
  ·refine go 6 ?_;refine sxb 62 rfl (fun h62 p62=>?_) (fun h62 p62=>?_)
   ·have hS1:(a0E l e.part).isSome=false:=(by rw[←a5y];simpa using p62)
    refine go 5 ?_;refine a2M rfl ?_;refine go 3 ?_;refine a0t rfl (a0H (pl:=[(0,1)]) he he rfl rfl) ?_;refine go 1 ?_;refine a0p _ he rfl rfl rfl rfl rfl rfl ?_;refine go 5 ?_;refine a1F rfl ⟨_,_,_,rfl,m0,.inr ⟨_,he,rfl,rfl⟩⟩ rfl ?_;exact q_i (StIs.fail (by simp only[a0q,hA0,p22,a0u,hS1,Bool.true_eq_false,decide_true,decide_false,Int.reduceEq,reduceIte,if_true,if_false,Bool.false_eq_true,not_true,not_false_eq_true,bS]))
   ·have hS1:(a0E l e.part).isSome=true:=(by rw[←a5y];simpa using p62)
    refine go 5 ?_;refine cb rfl (fun h65 p65=>?_) (fun h65 p65=>?_)
    ·have hO:(a2q l e).isSome=false:=(by rw[a9B,←a5y];simpa using p65)
     refine go 3 ?_;refine a0t rfl (a0H (pl:=[(0,1)]) he he rfl rfl) ?_;refine go 1 ?_;refine a0p _ he rfl rfl rfl rfl rfl rfl ?_;refine go 5 ?_;refine a1F rfl ⟨_,_,_,rfl,m0,.inr ⟨_,he,rfl,rfl⟩⟩ rfl ?_;exact q_i (StIs.fail (by simp only[a0q,hA0,p22,a0u,hS1,hO,Bool.true_eq_false,decide_true,decide_false,Int.reduceEq,reduceIte,if_true,if_false,Bool.false_eq_true,not_true,not_false_eq_true,bS]))
    ·have hO:(a2q l e).isSome=true:=(by rw[a9B,←a5y];simpa using p65)
     refine go 7 ?_;obtain⟨i1,hi1,ei1,hF1⟩:=(a2z (fun p:Part=>decide (p.name=e.part)) l).resolve_left (fun h=>by omega)
     have hP:a1Z l e=l[i1]:=by rw[a1Z,show a0E l e.part=_ from hF1];rfl
     have hmem:a1Z l e∈l:=by rw[hP];exact List.getElem_mem hi1
     obtain⟨b70,o70,w70,e70,c70,r70⟩:=RdA.at_ hA (i:=i1) hi1;rw[←hP]at r70
     obtain⟨s12,rfl,hs12⟩:=r70;refine o_v rfl (a0h he rfl rfl e70 (i1) ei1 hi1) ?_;refine o_v rfl (a0G he rfl c70 rfl) ?_;refine go 1 ?_;refine a0j he rfl (fun g12=>?_);refine go 1 ?_;refine a0p _ he rfl rfl rfl rfl rfl (Enc.one (α:=Part) (I:=I) (x:=a1Z l e) ⟨s12,rfl,hs12⟩) ?_;refine go 7 ?_;obtain⟨i2,hi2,ei2,hF2⟩:=(a2z (fun p:Part=>decide (p.name=b3f e)) l).resolve_left (fun h=>by omega)
     have hQ:a3l l e=l[i2]:=by rw[a3l,a9B,show a0E l (b3f e)=_ from hF2];rfl
     obtain⟨b75,o75,w75,e75,c75,r75⟩:=RdA.at_ hA (i:=i2) hi2;rw[←hQ]at r75
     obtain⟨s13,rfl,hs13⟩:=r75;refine o_v rfl (a0h he rfl rfl e75 (i2) ei2 hi2) ?_;refine o_v rfl (a0G he rfl c75 rfl) ?_;refine go 1 ?_;refine a0j he rfl (fun g13=>?_);refine go 1 ?_;refine a0p _ he rfl rfl rfl rfl rfl (Enc.one (α:=Part) (I:=I) (x:=a3l l e) ⟨s13,rfl,hs13⟩) ?_;refine go 8 ?_;refine sxb 79 rfl (fun h79 p79=>?_) (fun h79 p79=>?_)
     ·refine go 5 ?_;refine a2M rfl ?_;refine go 3 ?_;refine a0t rfl (a0H (pl:=[(0,1)]) he he rfl rfl) ?_;refine go 1 ?_;refine a0o ?_;refine a0p _ he rfl rfl rfl rfl rfl rfl ?_;refine go 5 ?_;refine a1F rfl ⟨_,_,_,rfl,m0,.inr ⟨_,he,rfl,rfl⟩⟩ rfl ?_;exact q_i (StIs.fail (by simp only[a0q,hA0,p22,a0u,hS1,hO,h62,h65,h79,Bool.true_eq_false,decide_true,decide_false,Int.reduceEq,reduceIte,if_true,if_false,Bool.false_eq_true,not_true,not_false_eq_true,bS]))
     ·refine go 5 ?_;refine cb rfl (fun h82 p82=>?_) (fun h82 p82=>?_)
      ·refine go 3 ?_;refine a0t rfl (a0H (pl:=[(0,1)]) he he rfl rfl) ?_;refine go 1 ?_;refine a0o ?_;refine a0p _ he rfl rfl rfl rfl rfl rfl ?_;refine go 5 ?_;refine a1F rfl ⟨_,_,_,rfl,m0,.inr ⟨_,he,rfl,rfl⟩⟩ rfl ?_;exact q_i (StIs.fail (by simp only[a0q,hA0,p22,a0u,hS1,hO,h62,h65,h79,h82,Bool.true_eq_false,decide_true,decide_false,Int.reduceEq,reduceIte,if_true,if_false,Bool.false_eq_true,not_true,not_false_eq_true,bS]))
      ·refine go 8 ?_;refine a2p (a6C _ vc c hvc (a1Z l e).kind) rfl rfl (fun v88 q88=>?_);obtain⟨vs14,rfl,s14,rfl,hs14⟩:=q88;refine go 4 ?_;refine a0j he rfl (fun g14=>?_);refine go 1 ?_;refine a0p _ he rfl rfl rfl rfl rfl (Enc.one (α:=Kind) (I:=I) (x:=a2i c l e) ⟨s14,rfl,hs14⟩) ?_;refine go 4 ?_;refine b8z (Ix:=(fun J p2 s2=>J)) (Lx:=(fun J p2 s2=>[(4,.pointer (some ⟨g4,0,none⟩)),(6,.pointer (some ⟨g6,0,none⟩)),(12,.pointer (some ⟨g12,0,none⟩))])) (Hx:=(fun J p2 s2=>[.blk g12 48 (p2.cells s2),.blk g6 53 [.slice none 0 0],.blk g4 53 [.slice A l.length c0]])) (p:=(fun J p2 s2=>ILe I J∧RdS J s2 p2.props∧a0q c l e=b6h l p2)) ?_ ?_
       ·refine go 13 ?_;refine cb rfl (fun h93 p93=>?_) (fun h93 p93=>?_)
        ·have hsl:=c2v hE p93
         refine go 6 ?_;refine sxb 97 rfl (fun h97 p97=>?_) (fun h97 p97=>?_)
         ·refine go 12 ?_;refine a2M rfl ?_;refine go 3 ?_;refine a0t rfl (a0H (pl:=[(0,1)]) he he rfl rfl) ?_;refine go 1 ?_;refine a1c ?_;refine a0p _ he rfl rfl rfl rfl rfl rfl ?_;refine go 7 ?_;refine a1F rfl ⟨_,_,_,rfl,m0,.inr ⟨_,he,rfl,rfl⟩⟩ rfl ?_;exact q_i (StIs.fail (by simp only[a0q,hA0,p22,a0u,hS1,hO,h82,a1b,a0V,a0x,a0W,a0P,a0C,a2i,a2x,p22,p62,p65,p79,p82,p93,p97,h62,h65,h79,h82,h93,h97,Bool.true_eq_false,decide_true,decide_false,Int.reduceEq,reduceIte,if_true,if_false,Bool.false_eq_true,not_true,not_false_eq_true,bS]))
         ·refine go 8 ?_;refine a0R rfl rfl h97 (a0d (b0K _ vc c hvc (a3l l e).kind e.slot (a1Z l e).kind) rfl rfl ?_);refine go 4 ?_;refine cb rfl (fun h107 p107=>?_) (fun h107 p107=>?_)
          ·refine go 3 ?_;refine a0t rfl (a0H (pl:=[(0,1)]) he he rfl rfl) ?_;refine go 1 ?_;refine a1c ?_;refine a0p _ he rfl rfl rfl rfl rfl rfl ?_;refine go 7 ?_;refine a1F rfl ⟨_,_,_,rfl,m0,.inr ⟨_,he,rfl,rfl⟩⟩ rfl ?_;exact q_i (StIs.fail (by simp only[a0q,hA0,p22,a0u,hS1,hO,h82,a1b,a0V,a0x,a0W,a0P,a0C,a2i,a2x,p22,p62,p65,p79,p82,p93,p97,p107,h62,h65,h79,h82,h93,h97,h107,Bool.true_eq_false,decide_true,decide_false,Int.reduceEq,reduceIte,if_true,if_false,Bool.false_eq_true,not_true,not_false_eq_true,bS]))
          ·refine go 10 ?_;refine cb rfl (fun h111 p111=>?_) (fun h111 p111=>?_)
           ·refine go 3 ?_;refine a0t rfl (a0H (pl:=[(0,1)]) he he rfl rfl) ?_;refine go 1 ?_;refine a1c ?_;refine a0p _ he rfl rfl rfl rfl rfl rfl ?_;refine go 7 ?_;refine a1F rfl ⟨_,_,_,rfl,m0,.inr ⟨_,he,rfl,rfl⟩⟩ rfl ?_;exact q_i (StIs.fail (by simp only[a0q,hA0,p22,a0u,hS1,hO,h82,a1b,a0V,a0x,a0W,a0P,a0C,a2i,a2x,p22,p62,p65,p79,p82,p93,p97,p107,p111,h62,h65,h79,h82,h93,h97,h107,h111,Bool.true_eq_false,decide_true,decide_false,Int.reduceEq,reduceIte,if_true,if_false,Bool.false_eq_true,not_true,not_false_eq_true,bS]))
           ·refine go 11 ?_;refine a0d (b7O _ _ l hv0 e hsl) rfl rfl ?_;refine go 2 ?_;refine cb rfl (fun h118 p118=>?_) (fun h118 p118=>?_)
            ·refine go 3 ?_;refine a0t rfl (a0H (pl:=[(0,1)]) he he rfl rfl) ?_;refine go 1 ?_;refine a1c ?_;refine a0p _ he rfl rfl rfl rfl rfl rfl ?_;refine go 7 ?_;refine a1F rfl ⟨_,_,_,rfl,m0,.inr ⟨_,he,rfl,rfl⟩⟩ rfl ?_;exact q_i (StIs.fail (by simp only[a0q,hA0,p22,a0u,hS1,hO,h82,a1b,a0V,a0x,a0W,a0P,a0C,a2i,a2x,p22,p62,p65,p79,p82,p93,p97,p107,p111,p118,h62,h65,h79,h82,h93,h97,h107,h111,h118,Bool.true_eq_false,decide_true,decide_false,Int.reduceEq,reduceIte,if_true,if_false,Bool.false_eq_true,not_true,not_false_eq_true,bS]))
            ·refine go 8 ?_;refine a0o ?_;refine a2f he rfl rfl rfl rfl ?_;refine go 7 ?_;refine a2f he rfl rfl rfl rfl ?_;refine go 3 ?_;refine a0f ?_;refine a0b ?_;refine a0f ?_;refine a0b ?_;refine a0o ?_;refine a0b ?_;refine a1c ?_;refine a0b ?_;exact a3F (_) ({ a1Z l e with into:=e.into,slot:=e.slot }) (_) ⟨ILe.refl _,hs12,by simp only[a0q,hA0,p22,a0u,hS1,hO,h82,a1b,a0V,a0x,a0W,a0P,a0C,a2i,a2x,a1q,p22,p62,p65,p79,p82,p93,p97,p107,p111,p118,h62,h65,h79,h82,h93,h97,h107,h111,h118,Bool.true_eq_false,decide_true,decide_false,Int.reduceEq,reduceIte,if_true,if_false,Bool.false_eq_true,not_true,not_false_eq_true,bS]⟩ sb rfl rfl
        ·refine go 6 ?_;refine cb rfl (fun h126 p126=>?_) (fun h126 p126=>?_)
         ·refine go 8 ?_;refine cb rfl (fun h130 p130=>?_) (fun h130 p130=>?_)
          ·refine go 3 ?_;refine a0t rfl (a0H (pl:=[(0,1)]) he he rfl rfl) ?_;refine go 1 ?_;refine a1c ?_;refine a0p _ he rfl rfl rfl rfl rfl rfl ?_;refine go 7 ?_;refine a1F rfl ⟨_,_,_,rfl,m0,.inr ⟨_,he,rfl,rfl⟩⟩ rfl ?_;exact q_i (StIs.fail (by simp only[a0q,hA0,p22,a0u,hS1,hO,h82,a1b,a0V,a0x,a0W,a0P,a0C,a2i,a2x,p22,p62,p65,p79,p82,p93,p126,p130,h62,h65,h79,h82,h93,h126,h130,Bool.true_eq_false,decide_true,decide_false,Int.reduceEq,reduceIte,if_true,if_false,Bool.false_eq_true,not_true,not_false_eq_true,bS]))
          ·refine go 6 ?_;refine a0o ?_;refine a2f he rfl rfl rfl rfl ?_;refine go 5 ?_;refine a2f he rfl rfl rfl rfl ?_;refine go 3 ?_;refine a0f ?_;refine a0b ?_;refine a0f ?_;refine a0b ?_;refine a0o ?_;refine a0b ?_;refine a1c ?_;refine a0b ?_;exact a3F (_) ({ a1Z l e with into:=a0Z,slot:=a0Z }) (_) ⟨ILe.refl _,hs12,by simp only[a0q,hA0,p22,a0u,hS1,hO,h82,a1b,a0V,a0x,a0W,a0P,a0C,a2i,a2x,a1q,p22,p62,p65,p79,p82,p93,p126,p130,h62,h65,h79,h82,h93,h126,h130,Bool.true_eq_false,decide_true,decide_false,Int.reduceEq,reduceIte,if_true,if_false,Bool.false_eq_true,not_true,not_false_eq_true,bS]⟩ sb rfl rfl
         ·refine go 6 ?_;refine cb rfl (fun h134 p134=>?_) (fun h134 p134=>?_)
          ·refine go 7 ?_;refine cb rfl (fun h138 p138=>?_) (fun h138 p138=>?_)
           ·refine go 3 ?_;refine a0t rfl (a0H (pl:=[(0,1)]) he he rfl rfl) ?_;refine go 1 ?_;refine a1c ?_;refine a0p _ he rfl rfl rfl rfl rfl rfl ?_;refine go 6 ?_;refine a1F rfl ⟨_,_,_,rfl,m0,.inr ⟨_,he,rfl,rfl⟩⟩ rfl ?_;exact q_i (StIs.fail (by simp only[a0q,hA0,p22,a0u,hS1,hO,h82,a1b,a0V,a0x,a0W,a0P,a0C,a2i,a2x,p22,p62,p65,p79,p82,p93,p126,p134,p138,h62,h65,h79,h82,h93,h126,h134,h138,Bool.true_eq_false,decide_true,decide_false,Int.reduceEq,reduceIte,if_true,if_false,Bool.false_eq_true,not_true,not_false_eq_true,bS]))
           ·refine go 3 ?_;refine a0b ?_;refine a0b ?_;refine a0o ?_;refine a0b ?_;refine a1c ?_;refine a0b ?_;exact a3F (_) (a1Z l e) (_) ⟨ILe.refl _,hs12,by simp only[a0q,hA0,p22,a0u,hS1,hO,h82,a1b,a0V,a0x,a0W,a0P,a0C,a2i,a2x,a1q,p22,p62,p65,p79,p82,p93,p126,p134,p138,h62,h65,h79,h82,h93,h126,h134,h138,Bool.true_eq_false,decide_true,decide_false,Int.reduceEq,reduceIte,if_true,if_false,Bool.false_eq_true,not_true,not_false_eq_true,bS]⟩ sb rfl rfl
          ·refine go 6 ?_;refine cb rfl (fun h140 p140=>?_) (fun h140 p140=>?_)
           ·refine go 6 ?_;refine o_v rfl (c5e rfl rfl) ?_;refine go 2 ?_;refine a0o ?_;refine a2f he rfl rfl rfl rfl ?_;refine go 4 ?_;refine a0t rfl (a0H (pl:=[(0,2),(2,2),(4,2)]) he he rfl rfl) ?_;refine go 2 ?_;refine c8L _ _ he rfl rfl rfl rfl rfl rfl rfl ?_;refine go 3 ?_;refine a0f ?_;refine a0b ?_;refine a0f ?_;refine a0b ?_;refine a0o ?_;refine a0b ?_;refine a1c ?_;refine a0b ?_;exact a3F (_) (a1q e (a1Z l e)) (_) ⟨ILe.refl _,hs12,by simp only[a0q,hA0,p22,a0u,hS1,hO,h82,a1b,a0V,a0x,a0W,a0P,a0C,a2i,a2x,a1q,p22,p62,p65,p79,p82,p93,p126,p134,p140,h62,h65,h79,h82,h93,h126,h134,h140,Bool.true_eq_false,decide_true,decide_false,Int.reduceEq,reduceIte,if_true,if_false,Bool.false_eq_true,not_true,not_false_eq_true,bS]⟩ sb rfl rfl
           ·refine go 6 ?_;refine cb rfl (fun h150 p150=>?_) (fun h150 p150=>?_)
            ·refine go 9 ?_;refine a0O (c0v _ s12 (a1Z l e).props hs12 (by have:=(a5C hV hmem).2;omega) e.key e.value) rfl rfl (fun v158 I158 j158 q158=>?_)
             have R158:RdS I158 v158 (a5u Prp.key (a1Z l e).props ⟨e.key,e.value⟩):=b2z (nm:=Prp.key) (x:=⟨e.key,e.value⟩) (b5w (a5C hV hmem).1)▸q158
             obtain⟨B158,d158,rfl,h158⟩:=R158;refine go 2 ?_;refine a0o ?_;refine a2f he rfl rfl rfl rfl ?_;refine go 10 ?_;refine cb rfl (fun h163 p163=>?_) (fun h163 p163=>?_)
             ·refine go 3 ?_;refine a0t rfl (a0H (pl:=[(0,1)]) he he rfl rfl) ?_;refine go 1 ?_;refine a1c ?_;refine a0p _ he rfl rfl rfl rfl rfl rfl ?_;refine go 6 ?_;refine a1F rfl ⟨_,_,_,rfl,m0,.inr ⟨_,he,rfl,rfl⟩⟩ rfl ?_;exact q_i (StIs.fail (by simp only[a0q,hA0,p22,a0u,hS1,hO,h82,a1b,a0V,a0x,a0W,a0P,a0C,a2i,a2x,p22,p62,p65,p79,p82,p93,p126,p134,p140,p150,p163,h62,h65,h79,h82,h93,h126,h134,h140,h150,h163,Bool.true_eq_false,decide_true,decide_false,Int.reduceEq,reduceIte,if_true,if_false,Bool.false_eq_true,not_true,not_false_eq_true,bS]))
             ·refine go 3 ?_;refine a0f ?_;refine a0b ?_;refine a0f ?_;refine a0b ?_;refine a0o ?_;refine a0b ?_;refine a1c ?_;refine a0b ?_;exact a3F (_) (a2x e (a1Z l e)) (_) ⟨j158,⟨B158,d158,rfl,h158⟩,by simp only[a0q,hA0,p22,a0u,hS1,hO,h82,a1b,a0V,a0x,a0W,a0P,a0C,a2i,a2x,a1q,p22,p62,p65,p79,p82,p93,p126,p134,p140,p150,p163,h62,h65,h79,h82,h93,h126,h134,h140,h150,h163,Bool.true_eq_false,decide_true,decide_false,Int.reduceEq,reduceIte,if_true,if_false,Bool.false_eq_true,not_true,not_false_eq_true,bS]⟩ sb rfl rfl
            ·refine go 6 ?_;refine cb rfl (fun h165 p165=>?_) (fun h165 p165=>?_)
             ·refine go 7 ?_;refine sxb 170 rfl (fun h170 p170=>?_) (fun h170 p170=>?_)
              ·refine go 7 ?_;refine a2M rfl ?_;refine go 3 ?_;refine a0t rfl (a0H (pl:=[(0,1)]) he he rfl rfl) ?_;refine go 1 ?_;refine a1c ?_;refine a0p _ he rfl rfl rfl rfl rfl rfl ?_;refine go 7 ?_;refine a1F rfl ⟨_,_,_,rfl,m0,.inr ⟨_,he,rfl,rfl⟩⟩ rfl ?_;exact q_i (StIs.fail (by simp only[a0q,hA0,p22,a0u,hS1,hO,h82,a1b,a0V,a0x,a0W,a0P,a0C,a2i,a2x,p22,p62,p65,p79,p82,p93,p126,p134,p140,p150,p165,p170,h62,h65,h79,h82,h93,h126,h134,h140,h150,h165,h170,Bool.true_eq_false,decide_true,decide_false,Int.reduceEq,reduceIte,if_true,if_false,Bool.false_eq_true,not_true,not_false_eq_true,bS]))
              ·refine go 4 ?_;refine a0R rfl rfl h170 (a0d (b7N _ _ l hv0 (a1Z l e).name) rfl rfl ?_);refine go 3 ?_;refine cb rfl (fun h175 p175=>?_) (fun h175 p175=>?_)
               ·refine go 3 ?_;refine a0t rfl (a0H (pl:=[(0,1)]) he he rfl rfl) ?_;refine go 1 ?_;refine a1c ?_;refine a0p _ he rfl rfl rfl rfl rfl rfl ?_;refine go 7 ?_;refine a1F rfl ⟨_,_,_,rfl,m0,.inr ⟨_,he,rfl,rfl⟩⟩ rfl ?_;exact q_i (StIs.fail (by simp only[a0q,hA0,p22,a0u,hS1,hO,h82,a1b,a0V,a0x,a0W,a0P,a0C,a2i,a2x,p22,p62,p65,p79,p82,p93,p126,p134,p140,p150,p165,p170,p175,h62,h65,h79,h82,h93,h126,h134,h140,h150,h165,h170,h175,Bool.true_eq_false,decide_true,decide_false,Int.reduceEq,reduceIte,if_true,if_false,Bool.false_eq_true,not_true,not_false_eq_true,bS]))
               ·refine go 5 ?_;refine a0o ?_;refine a2f he rfl rfl rfl rfl ?_;refine go 3 ?_;refine a0f ?_;refine a0b ?_;refine a0f ?_;refine a0b ?_;refine a0o ?_;refine a0b ?_;refine a1c ?_;refine a0b ?_;exact a3F (_) ({ a1Z l e with scrapped:=true }) (_) ⟨ILe.refl _,hs12,by simp only[a0q,hA0,p22,a0u,hS1,hO,h82,a1b,a0V,a0x,a0W,a0P,a0C,a2i,a2x,a1q,p22,p62,p65,p79,p82,p93,p126,p134,p140,p150,p165,p170,p175,h62,h65,h79,h82,h93,h126,h134,h140,h150,h165,h170,h175,Bool.true_eq_false,decide_true,decide_false,Int.reduceEq,reduceIte,if_true,if_false,Bool.false_eq_true,not_true,not_false_eq_true,bS]⟩ sb rfl rfl
             ·refine go 3 ?_;refine a0b ?_;refine a0b ?_;refine a0o ?_;refine a0b ?_;refine a1c ?_;refine a0b ?_;exact a3F (_) (a1Z l e) (_) ⟨ILe.refl _,hs12,by simp only[a0q,hA0,p22,a0u,hS1,hO,h82,a1b,a0V,a0x,a0W,a0P,a0C,a2i,a2x,a1q,p22,p62,p65,p79,p82,p93,p126,p134,p140,p150,p165,h62,h65,h79,h82,h93,h126,h134,h140,h150,h165,Bool.true_eq_false,decide_true,decide_false,Int.reduceEq,reduceIte,if_true,if_false,Bool.false_eq_true,not_true,not_false_eq_true,bS]⟩ sb rfl rfl
       ·rintro J p2 s2 ⟨hJ,⟨B2,d2,rfl,hB2⟩,hA2⟩;refine go 5 ?_;refine a0O (b3o _ _ l (hv0.le hJ) hl6 p2 B2 d2 ⟨_,rfl,B2,d2,rfl,hB2⟩) rfl rfl (fun v180 I180 j180 q180=>?_);obtain⟨w180,rfl,hw180⟩:=q180;refine go 1 ?_;refine a0f ?_;refine a0p _ he rfl rfl rfl rfl rfl (by simp[hw180.one]) ?_;refine go 4 ?_;refine a1F rfl ⟨_,_,_,rfl,m0,.inr ⟨_,he,rfl,rfl⟩⟩ rfl ?_;rw[b2z (b5w hsrt)]at hw180
        exact q_i (StIs.put hA2 hw180)
theorem b0L (I:IMap) (vc:Value) (c:List Kind) (hvc:RdS I vc c) (hsc:SmC c) (v:Value) (l:List Part) (hv:RdS I v l) (hsf:SmF l) (e:Evt) (hse:SmE e) :
    FnI Tryz.prog 207 #[.agg #[vc],.agg #[v],.agg e.cells.toArray] I (fun u J=>StIs J (a0q c l e) u):=by
 refine enter Tryz.func207 Tryz.call207 rfl Tryz.ntmps207 rfl (fun w0=>?_);refine go 3 ?_;refine a0B _ rfl rfl rfl (fun g3=>?_);refine go 1 ?_;refine a0B _ rfl rfl rfl (fun g4=>?_);refine go 1 ?_;refine a0B _ rfl rfl rfl (fun g5=>?_);refine go 1 ?_;refine a0j he rfl (fun g6=>?_);refine go 5 ?_;refine a2I (I':=I) (L':=[(3,.pointer (some ⟨g3,0,none⟩)),(4,.pointer (some ⟨g4,0,none⟩)),(5,.pointer (some ⟨g5,0,none⟩)),(6,.pointer (some ⟨g6,0,none⟩)),(16,.bool (!a2T c l || !a1t e))]) (H':=[.blk g6 53 [.slice none 0 0],.blk g5 96 e.cells,.blk g4 53 [v],.blk g3 24 [vc]]) ?_ ?_
 ·refine go 4 ?_;refine a0d (b7M _ vc c hvc hsc _ l hv hsf) rfl rfl ?_;refine go 2 ?_;refine sxb 12 rfl (fun h12 p12=>?_) (fun h12 p12=>?_)
  ·refine go 6 ?_;exact a0L ⟨rfl,rfl,rfl,rfl,(congrArg (fun b=>some (Value.bool b)) (by simp only[h12,bS])),trivial⟩ rfl rfl
  ·refine go 2 ?_;refine a0R rfl rfl h12 (a0d (a7Q _ e hse) rfl rfl ?_);refine go 4 ?_;exact a0L ⟨rfl,rfl,rfl,rfl,(congrArg (fun b=>some (Value.bool b)) (by simp only[h12,bS])),trivial⟩ rfl rfl
 ·refine cb rfl (fun h16 p16=>?_) (fun h16 p16=>?_)
  ·refine go 3 ?_;refine a0t rfl (a0H (pl:=[(0,1)]) he he rfl rfl) ?_;refine go 1 ?_;refine a0p _ he rfl rfl rfl rfl rfl rfl ?_;refine go 5 ?_;refine a1F rfl ⟨_,_,_,rfl,m0,.inr ⟨_,he,rfl,rfl⟩⟩ rfl ?_;exact q_i (StIs.fail (by simp only[a0q,h16,if_true]))
  ·have hVE:a2T c l=true∧a1t e=true:=by revert h16;simp
   refine go 8 ?_;refine a0O (c0w _ vc c hvc hsc _ l hv hsf e hse hVE.1 hVE.2) rfl rfl (fun v21 I21 j21 q21=>?_);obtain⟨w21,rfl,hw21⟩:=q21;refine go 3 ?_;refine a0p _ he rfl rfl rfl rfl rfl (by simp[hw21.one]) ?_;refine go 4 ?_;refine a1F rfl ⟨_,_,_,rfl,m0,.inr ⟨_,he,rfl,rfl⟩⟩ rfl ?_;exact q_i ⟨w21,rfl,hw21⟩
theorem c6O (I:IMap) (v:Value) (l:List Evt) (hv:RdS I v l) (hl:l.length≤1000000) (day:Int) :
    FnI Tryz.prog 186 #[v,.int .i64 day] I (fun u J=>RdS J u (l.filter fun e=>!decide (e.day>day))):=by
 obtain⟨A,c0,rfl,hA,hc,hm⟩:=hv;refine enter Tryz.func186 Tryz.call186 rfl Tryz.ntmps186 rfl (fun w0=>?_);refine go 7 ?_;refine a1f 96 14 ?_;refine go 10 ?_
 refine a3B ((0:Nat)) (_) ([]) ([]) (fun i v xs out=>I)
  (fun i v xs out=>[(0,.slice A l.length c0),(1,.int .i64 day),(5,v),(6,.int .i64 ((i:Nat):Int))])
  (fun i v xs out=>[.row v 96 14 out.length xs])
  (fun i v xs out=>i≤l.length∧(l.take i).filter (fun e:Evt=>!decide (e.day>day))=out∧Flat I xs out)
  (fun i v xs out=>l.length-i) ⟨Nat.zero_le _,rfl,.nil⟩ rfl sb rfl ?_
 intro i v xs out ⟨hi,hw,hF⟩
 have hol:out.length≤i:=by rw[←hw];exact Nat.le_trans (List.length_filter_le _ _) (by rw[List.length_take];omega)
 refine go 9 ?_;refine cb rfl (fun h10 p10=>?_) (fun h10 p10=>?_)
 ·have hlt:i<l.length:=by omega
  refine go 8 ?_;obtain⟨b15,o15,w15,e15,c15,r15⟩:=RdA.at_ hA (i:=i) hlt;obtain rfl:=r15;refine o_v rfl (a0h he rfl rfl e15 (i) (by omega) hlt) ?_;refine go 1 ?_;refine o_v rfl (a0K he rfl (c15 1 _ rfl)) ?_;refine go 4 ?_;refine cb rfl (fun h19 p19=>?_) (fun h19 p19=>?_)
  ·refine go 4 ?_;obtain⟨b23,o23,w23,e23,c23,r23⟩:=RdA.at_ hA (i:=i) hlt;obtain rfl:=r23;refine o_v rfl (a0h he rfl rfl e23 (i) (by omega) hlt) ?_;refine o_v rfl (a0G he rfl c23 rfl) ?_;refine go 1 ?_;refine a0c he he rfl rfl rfl rfl rfl rfl rfl (fun v25=>?_);refine go 1 ?_;refine a0f ?_;refine a0v he he rfl rfl rfl rfl rfl (by omega) (by omega) rfl (fun v26=>?_);refine go 10 ?_;refine a0f ?_;refine a0b ?_;exact a1N (i+1) (_) (_) (out++[l[i]]) ⟨by omega,by rw[b7d (f:=(fun e:Evt=>!decide (e.day>day))) hlt (by simpa using p19),hw],hF.append (.one rfl)⟩ (by omega) rfl sb (by first|rfl|(simp only[List.length_append,List.length_singleton];rfl)|simp only[List.length_append,List.length_singleton])
  ·refine go 9 ?_;exact a1N (i+1) (_) (_) (out) ⟨by omega,by rw[b9a (f:=(fun e:Evt=>!decide (e.day>day))) hlt (by simpa using p19),hw],hF⟩ (by omega) rfl sb (by first|rfl|(simp only[List.length_append,List.length_singleton];rfl)|simp only[List.length_append,List.length_singleton])
 ·refine go 12 ?_;refine a0s rfl rfl ?_
  have e:i=l.length:=(by omega)
  subst e;rw[List.take_length]at hw
  subst hw;refine a0l (l:=l.filter (fun e:Evt=>!decide (e.day>day))) rfl rfl hF (fun I9 j9 R9=>?_);exact q_i R9
theorem c0x (I:IMap) (v:Value) (l:List Evt) (hv:RdS I v l) (hl:l.length≤1000000) :
    FnI Tryz.prog 206 #[v] I (fun u J=>RdS J u (a0U l)):=by
 obtain⟨A,c0,rfl,hA,hc,hm⟩:=hv;refine enter Tryz.func206 Tryz.call206 rfl Tryz.ntmps206 rfl (fun w0=>?_);refine go 17 ?_
 refine a2L ((0:Nat)) (_) (I) (fun i v3 J=>J)
  (fun i v3 J=>[(0,.slice A l.length c0),(3,v3),(4,.int .i64 ((i:Nat):Int))])
  (fun i v3 J=>[])
  (fun i v3 J=>i≤l.length∧ILe I J∧RdS J v3 (a0U (l.take i)))
  (fun i v3 J=>l.length-i) ⟨Nat.zero_le _,ILe.refl _,RdS.nil'⟩ rfl sb rfl ?_
 intro i v3 J ⟨hi,hJ,hv3⟩
 have hA:=hA.le hJ
 obtain⟨A3,c3,rfl,hA3,hc3,hm3⟩:=id hv3
 have hsl:(a0U (l.take i)).length=i:=by rw[a4j,List.length_take];omega
 refine go 9 ?_;refine cb rfl (fun h10 p10=>?_) (fun h10 p10=>?_)
 ·have hlt:i<l.length:=by omega
  refine go 12 ?_;refine a5d (α:=Nat) (Ix:=(fun k=>J)) (Lx:=(fun k=>[(0,.slice A l.length c0),(3,.slice A3 (a0U (l.take i)).length c3),(4,.int .i64 ((i:Nat):Int)),(5,.int .i64 ((k:Nat):Int))])) (Hx:=(fun k=>[])) (p:=(fun k=>k≤i∧(∀j y,k≤j→(a0U (l.take i))[j]? = some y→Day.day y>Day.day l[i])∧(k=0∨∃y,(a0U (l.take i))[k-1]? = some y∧Day.day y≤Day.day l[i]))) ?_ ?_
  ·refine go 1 ?_
   refine a0Q (α:=Nat) i (fun k=>J)
    (fun k=>[(0,.slice A l.length c0),(3,.slice A3 (a0U (l.take i)).length c3),(4,.int .i64 ((i:Nat):Int)),(5,.int .i64 ((k:Nat):Int))])
    (fun k=>[])
    (fun k=>k≤i∧∀j y,k≤j→(a0U (l.take i))[j]? = some y→Day.day y>Day.day l[i])
    (fun k=>k) ⟨Nat.le_refl _,fun j y h1 h2=>by have:=(List.getElem?_eq_some_iff.1 h2).1;omega⟩ rfl ⟨rfl,rfl,rfl,congrArg (fun z:Nat=>some (Value.int .i64 (z:Int))) hsl,trivial⟩ rfl ?_
   intro k ⟨hki,hk1⟩;refine go 2 ?_;refine a0F T.mixed ?_;refine a0e 0 rfl rfl (by kernel_rfl) rfl .slnil rfl (a0a rfl) ?_;refine a0e 1 rfl rfl (by kernel_rfl) rfl .slnil rfl (a9R rfl rfl) ?_;refine a0e 2 rfl rfl (by kernel_rfl) rfl .slnil rfl (a0a rfl) ?_;refine sxb 17 rfl (fun h17 p17=>?_) (fun h17 p17=>?_)
   ·refine d_t 3 rfl rfl (by kernel_rfl) rfl (fun _ m=>m.keeps .slnil) (a0k rfl rfl h17 (a0a rfl)) ?_;refine d_t 4 rfl rfl (by kernel_rfl) rfl (fun _ m=>m.keeps .slnil) (a0k rfl rfl h17 (a0a rfl)) ?_;refine d_t 5 rfl rfl (by kernel_rfl) rfl (fun _ m=>m.keeps .slnil) (a0k rfl rfl h17 (OV.cast (u:=.int .i64 ((k-1:Nat):Int)) (a1m rfl rfl ⟨by omega,by omega⟩) (congrArg (Value.int .i64) (by omega)))) ?_;obtain⟨b21,o21,w21,e21,c21,r21⟩:=RdA.at_ hA3 (i:=k-1) (by omega);obtain rfl:=r21;refine d_t 6 rfl rfl (by kernel_rfl) rfl (fun _ m=>m.keeps .slnil) (a0k rfl rfl h17 (a0h he rfl rfl e21 (k-1) (by omega) (by omega))) ?_;refine d_t 7 rfl rfl (by kernel_rfl) rfl (fun _ m=>m.keeps .slnil) (a0k rfl rfl h17 (a0g he rfl)) ?_;refine d_t 8 rfl rfl (by kernel_rfl) rfl (fun _ m=>m.keeps .slnil) (a0k rfl rfl h17 (a0K he rfl (c21 1 _ rfl))) ?_;refine d_t 9 rfl rfl (by kernel_rfl) rfl (fun _ m=>m.keeps .slnil) (a0k rfl rfl h17 (a0a rfl)) ?_;refine d_t 10 rfl rfl (by kernel_rfl) rfl (fun _ m=>m.keeps .slnil) (a0k rfl rfl h17 (a0a rfl)) ?_;obtain⟨b26,o26,w26,e26,c26,r26⟩:=RdA.at_ hA (i:=i) hlt;obtain rfl:=r26;refine d_t 11 rfl rfl (by kernel_rfl) rfl (fun _ m=>m.keeps .slnil) (a0k rfl rfl h17 (a0h he rfl rfl e26 (i) (by omega) hlt)) ?_;refine d_t 12 rfl rfl (by kernel_rfl) rfl (fun _ m=>m.keeps .slnil) (a0k rfl rfl h17 (a0g he rfl)) ?_;refine d_t 13 rfl rfl (by kernel_rfl) rfl (fun _ m=>m.keeps .slnil) (a0k rfl rfl h17 (a0K he rfl (c26 1 _ rfl))) ?_;refine d_t 14 rfl rfl (by kernel_rfl) rfl (fun _ m=>m.keeps .slnil) (a0k rfl rfl h17 (a9R rfl rfl)) ?_;refine a0e 15 rfl rfl (by kernel_rfl) rfl .slnil rfl (a3g h17 rfl rfl) ?_;refine a0n (by kernel_rfl) ?_;refine go 1 ?_;refine cb rfl (fun h30 p30=>?_) (fun h30 p30=>?_)
    ·refine go 10 ?_
     exact a0M (k-1) ⟨by omega,fun j y h1 h2=>by
       rcases Nat.lt_or_ge j k with h|h
       · obtain rfl:j=k-1:=by omega
         rw[List.getElem?_eq_getElem (by omega)]at h2
         cases h2
         exact p30
       · exact hk1 j y h h2⟩ (by omega) rfl ⟨rfl,rfl,rfl,congrArg (fun z:Int=>some (Value.int .i64 z)) (by omega),trivial⟩ rfl
    ·refine go 5 ?_;exact a2a k ⟨hki,hk1,.inr ⟨_,List.getElem?_eq_getElem (by omega),Int.not_lt.1 p30⟩⟩ sb rfl rfl
   ·refine d_t 3 rfl rfl (by kernel_rfl) rfl (fun _ m=>m.keeps .slnil) (a0A rfl rfl h17) ?_;refine d_t 4 rfl rfl (by kernel_rfl) rfl (fun _ m=>m.keeps .slnil) (a0A rfl rfl h17) ?_;refine d_t 5 rfl rfl (by kernel_rfl) rfl (fun _ m=>m.keeps .slnil) (a0A rfl rfl h17) ?_;refine d_t 6 rfl rfl (by kernel_rfl) rfl (fun _ m=>m.keeps .slnil) (a0A rfl rfl h17) ?_;refine d_t 7 rfl rfl (by kernel_rfl) rfl (fun _ m=>m.keeps .slnil) (a0A rfl rfl h17) ?_;refine d_t 8 rfl rfl (by kernel_rfl) rfl (fun _ m=>m.keeps .slnil) (a0A rfl rfl h17) ?_;refine d_t 9 rfl rfl (by kernel_rfl) rfl (fun _ m=>m.keeps .slnil) (a0A rfl rfl h17) ?_;refine d_t 10 rfl rfl (by kernel_rfl) rfl (fun _ m=>m.keeps .slnil) (a0A rfl rfl h17) ?_;refine d_t 11 rfl rfl (by kernel_rfl) rfl (fun _ m=>m.keeps .slnil) (a0A rfl rfl h17) ?_;refine d_t 12 rfl rfl (by kernel_rfl) rfl (fun _ m=>m.keeps .slnil) (a0A rfl rfl h17) ?_;refine d_t 13 rfl rfl (by kernel_rfl) rfl (fun _ m=>m.keeps .slnil) (a0A rfl rfl h17) ?_;refine d_t 14 rfl rfl (by kernel_rfl) rfl (fun _ m=>m.keeps .slnil) (a0A rfl rfl h17) ?_;refine a0e 15 rfl rfl (by kernel_rfl) rfl .slnil rfl (a3K h17 rfl) ?_;refine a0n (by kernel_rfl) ?_;refine go 1 ?_;refine a0T rfl ?_;refine go 5 ?_;exact a2a k ⟨hki,hk1,.inl (by omega)⟩ sb rfl rfl
  ·intro k ⟨hki,hk1,hk2⟩;refine go 1 ?_;refine a2Z (fun hE8 hf8=>?_);refine a0F T.mixed ?_;refine a0e 0 rfl rfl (by kernel_rfl) rfl .slnil rfl (a0a rfl) ?_;refine a0e 1 rfl rfl (by kernel_rfl) rfl .slnil rfl (a0a rfl) ?_;obtain⟨b35,o35,w35,e35,c35,r35⟩:=RdA.at_ hA (i:=i) hlt;obtain rfl:=r35;refine a0e 2 rfl rfl (by kernel_rfl) rfl .slnil rfl (a0h he rfl rfl e35 (i) (by omega) hlt) ?_;refine a0e 3 rfl rfl (by kernel_rfl) rfl .slnil rfl (a0G he rfl c35 rfl) ?_;refine a0e 5 rfl rfl (by kernel_rfl) rfl .slnil rfl (a0a rfl) ?_;refine a0e 6 rfl rfl (by kernel_rfl) rfl .slnil rfl (a0a rfl) ?_;refine a0e 7 rfl rfl (by kernel_rfl) rfl .slnil rfl (a0S he rfl rfl k rfl (by omega)) ?_;refine a0m 4 (by kernel_rfl) rfl ?_;refine a0c he he rfl rfl rfl rfl rfl rfl rfl (fun v37=>?_);refine a0D (fun _ m=>m.keeps (.cons _ .slnil)) ?_;refine a0m 8 (by kernel_rfl) rfl ?_;refine a0y ((hv3.drop k (by omega))) rfl he he rfl rfl rfl rfl (by simp;omega) (by simp;omega) rfl (fun v41 x41 f41=>?_);refine a0l (l:=l[i]::(a0U (l.take i)).drop k) rfl (by simp;omega) (.cons rfl f41) (fun I41 j41 R41=>?_)
   have hA3:=hA3.le j41
   have hv3:=hv3.le j41
   refine a0D (fun _ m=>m.keepsI .slnil (j41) hE8 hf8) ?_;refine d_t 9 rfl rfl (by kernel_rfl) rfl (fun _ m=>m.keepsI .slnil (j41) hE8 hf8) (y_v rfl (a0Y rfl)) ?_;refine a0n (by kernel_rfl) ?_;refine go 3 ?_;refine a0c he he rfl rfl rfl rfl rfl rfl rfl (fun v42=>?_);refine go 2 ?_;refine o_v rfl (a1w he rfl rfl k rfl (by omega)) ?_;refine go 1 ?_;refine a0y ((hv3.take k (by omega))) rfl he he rfl rfl rfl rfl (by simp;omega) (by simp;omega) rfl (fun v46 x46 f46=>?_);refine go 2 ?_;refine a0y (R41) rfl he he rfl rfl rfl rfl (by simp;omega) (by simp;omega) rfl (fun v48 x48 f48=>?_);refine a0l (l:=(a0U (l.take i)).take k++l[i]::(a0U (l.take i)).drop k) rfl (by simp<;>omega) (((Flat.nil.append f46).append f48)) (fun I48 j48 R48=>?_);refine go 10 ?_;exact a1M (i+1) (_) (_) ⟨by omega,hJ.trans (j41.trans j48),by rw[←a0i hlt,←b9w (k:=k) (by omega) hk1 (by rcases hk2 with h|h;exact .inl h;exact .inr h)];simpa using R48⟩ (by omega) rfl sb rfl
 ·refine go 12 ?_;refine a0s rfl rfl ?_
  have e:i=l.length:=(by omega)
  subst e;exact q_i (by have h:=hv3;rwa[List.take_length]at h ⊢)
theorem b6l (I:IMap) (vc:Value) (c:List Kind) (hvc:RdS I vc c) (hsc:SmC c) (v:Value) (l:List Evt) (hv:RdS I v l) (hl:l.length≤1000000) (hse:∀e∈l,SmE e) :
    FnI Tryz.prog 185 #[.agg #[vc],v] I (fun u J=>∃w,u = .tuple #[.agg #[w],.int .i64 (a7U c l).2.1,.int .i64 (a7U c l).2.2]∧RdS J w (a7U c l).1):=by
 refine enter Tryz.func185 Tryz.call185 rfl Tryz.ntmps185 rfl (fun w0=>?_);refine go 3 ?_;refine a0B _ rfl rfl rfl (fun g2=>?_);refine go 1 ?_;refine a0j he rfl (fun g4=>?_);refine go 9 ?_;refine a0d (a8P _ vc c hvc hsc) rfl rfl ?_;refine go 3 ?_;refine cb rfl (fun h14 p14=>?_) (fun h14 p14=>?_)
 ·refine go 3 ?_;refine a0t rfl (a0H (pl:=[(0,1)]) he he rfl rfl) ?_;refine go 1 ?_;refine a0p _ he rfl rfl rfl rfl rfl rfl ?_;refine go 6 ?_;refine c2s rfl ⟨_,_,_,rfl,m0,.inr ⟨_,he,rfl,rfl⟩⟩ rfl rfl ?_
  have hr:a7U c l=([],-1,1):=by unfold a7U;rw[if_pos (by rw[a3W];simpa using h14)]
  exact q_i ⟨_,by rw[hr],by rw[hr];exact RdS.nil'⟩
 ·have hC:a1g c=true:=by rw[a3W];simpa using h14
  refine go 6 ?_;refine a0O (c0x _ v l hv hl) rfl rfl (fun v17 I17 j17 q17=>?_)
  have hvc:=hvc.le j17
  have q17s:=q17
  obtain⟨A17,c17,rfl,hA17,_,_⟩:=q17
  have hsl:=a4j l
  refine go 6 ?_;refine a0j he rfl (fun g8=>?_);refine go 9 ?_
  refine a3B (0) ([]) (.slice none 0 0) (I17) (fun i st v8 J=>J)
   (fun i st v8 J=>[(2,.pointer (some ⟨g2,0,none⟩)),(4,.pointer (some ⟨g4,0,none⟩)),(7,.slice A17 (a0U l).length c17),(8,.pointer (some ⟨g8,0,none⟩)),(9,.int .i64 ((i:Nat):Int))])
   (fun i st v8 J=>[.blk g8 53 [v8],.blk g4 53 [.slice none 0 0],.blk g2 24 [vc]])
   (fun i st v8 J=>i≤(a0U l).length∧ILe I17 J∧RdS J v8 st∧SmF st∧a5H c [] 0 (a0U l)=a5H c st (i:Nat) ((a0U l).drop i))
   (fun i st v8 J=>(a0U l).length-i) ⟨Nat.zero_le _,ILe.refl _,RdS.nil',SmF.nil,rfl⟩ rfl sb rfl ?_
  intro i st v8 J ⟨hi,hJ,hv8,hsf,hgo⟩
  have hvc:=hvc.le hJ
  have hA17:=hA17.le hJ
  refine go 9 ?_;refine cb rfl (fun h21 p21=>?_) (fun h21 p21=>?_)
  ·have hlt:i<(a0U l).length:=by omega
   refine go 5 ?_;refine a2Z (fun hE8 hf8=>?_);refine a0F T.mixed ?_;refine a0e 0 rfl rfl (by kernel_rfl) rfl (.refl _) rfl (a3U m2 he rfl rfl) ?_;refine a0e 1 rfl rfl (by kernel_rfl) rfl (.refl _) rfl (a3U m0 he rfl rfl) ?_;refine a0e 2 rfl rfl (by kernel_rfl) rfl (.refl _) rfl (a0a rfl) ?_;refine a0e 3 rfl rfl (by kernel_rfl) rfl (.refl _) rfl (a0a rfl) ?_;obtain⟨b29,o29,w29,e29,c29,r29⟩:=RdA.at_ hA17 (i:=i) hlt;obtain rfl:=r29;refine a0e 4 rfl rfl (by kernel_rfl) rfl (.refl _) rfl (a0h he rfl rfl e29 (i) (by omega) hlt) ?_;refine a0e 5 rfl rfl (by kernel_rfl) rfl (.refl _) rfl (a0G he rfl c29 rfl) ?_;refine a3O 6 10 (by kernel_rfl) rfl rfl ?_ ?_
   ·refine a0O (b0L _ vc c hvc hsc _ st hv8 hsf (a0U l)[i] (hse _ (a4k.1 (List.getElem_mem hlt)))) rfl rfl (fun v31 I31 j31 q31=>?_);obtain⟨w31,rfl,hw31⟩:=q31;refine a0D (fun _ m=>m.keepsI (.refl _) (j31) hE8 hf8) ?_;refine d_t 7 rfl rfl (by kernel_rfl) rfl (fun _ m=>m.keepsI (.refl _) (j31) hE8 hf8) (y_v rfl (a0a rfl)) ?_;refine d_t 8 rfl rfl (by kernel_rfl) rfl (fun _ m=>m.keepsI (.refl _) (j31) hE8 hf8) (y_v rfl (a1C rfl rfl)) ?_;refine d_t 9 rfl rfl (by kernel_rfl) rfl (fun _ m=>m.keepsI (.refl _) (j31) hE8 hf8) (y_v rfl (a1C rfl rfl)) ?_;refine a0m 10 (by kernel_rfl) rfl ?_;refine a0j he rfl (fun g10=>?_);refine a0D (fun _ m=>m.keepsI (.cons _ (.refl _)) (j31) hE8 hf8) ?_;refine a0m 11 (by kernel_rfl) rfl ?_;refine a0p _ he rfl rfl rfl rfl rfl (by simp[hw31.one]) ?_;refine a0D (fun _ m=>m.keepsI (.cons _ (.refl _)) (j31) hE8 hf8) ?_;refine d_t 12 rfl rfl (by kernel_rfl) rfl (fun _ m=>m.keepsI (.cons _ (.refl _)) (j31) hE8 hf8) (y_v rfl (a0Y rfl)) ?_;refine a0n (by kernel_rfl) ?_;refine go 8 ?_;refine cb rfl (fun h35 p35=>?_) (fun h35 p35=>?_)
    ·have hok:¬(a0q c st (a0U l)[i]).2=0:=by simpa using p35
     refine go 3 ?_;refine a0t rfl (a0H (pl:=[(0,1)]) he he rfl rfl) ?_;refine go 3 ?_;refine a0o ?_;refine a0p _ he rfl rfl rfl rfl rfl rfl ?_;refine go 11 ?_;refine c2s rfl ⟨_,_,_,rfl,m0,.inr ⟨_,he,rfl,rfl⟩⟩ rfl rfl ?_
     have hr:a7U c l=([],((i:Nat):Int),(a0q c st (a0U l)[i]).2):=by unfold a7U;rw[if_neg (by simp[hC]),hgo,a8Q hlt,if_neg hok]
     exact q_i ⟨_,by rw[hr];rfl,by rw[hr];exact RdS.nil'⟩
    ·have hok:(a0q c st (a0U l)[i]).2=0:=by simpa using p35
     refine go 5 ?_;refine a0f ?_;refine a0p _ he rfl rfl rfl rfl rfl (by simp[hw31.one]) ?_;refine go 9 ?_;refine a0f ?_;refine a0b ?_;exact a1N (i+1) (_) (_) (_) ⟨by omega,hJ.trans j31,hw31,a6J hsf (hse _ (a4k.1 (List.getElem_mem hlt))),by rw[hgo,a8Q hlt,if_pos hok];rfl⟩ (by omega) rfl sb rfl
   ·refine a0j he rfl (fun g10=>?_);refine a0D (fun _ m=>m.keeps (.cons _ (.refl _))) ?_;refine a0m 6 (by kernel_rfl) rfl ?_;refine a0O (b0L _ vc c hvc hsc _ st hv8 hsf (a0U l)[i] (hse _ (a4k.1 (List.getElem_mem hlt)))) rfl rfl (fun v31 I31 j31 q31=>?_);obtain⟨w31,rfl,hw31⟩:=q31;refine a0D (fun _ m=>m.keepsI (.cons _ (.refl _)) (j31) hE8 hf8) ?_;refine d_t 7 rfl rfl (by kernel_rfl) rfl (fun _ m=>m.keepsI (.cons _ (.refl _)) (j31) hE8 hf8) (y_v rfl (a0a rfl)) ?_;refine d_t 8 rfl rfl (by kernel_rfl) rfl (fun _ m=>m.keepsI (.cons _ (.refl _)) (j31) hE8 hf8) (y_v rfl (a1C rfl rfl)) ?_;refine d_t 9 rfl rfl (by kernel_rfl) rfl (fun _ m=>m.keepsI (.cons _ (.refl _)) (j31) hE8 hf8) (y_v rfl (a1C rfl rfl)) ?_;refine a0m 11 (by kernel_rfl) rfl ?_;refine a0p _ he rfl rfl rfl rfl rfl (by simp[hw31.one]) ?_;refine a0D (fun _ m=>m.keepsI (.cons _ (.refl _)) (j31) hE8 hf8) ?_;refine d_t 12 rfl rfl (by kernel_rfl) rfl (fun _ m=>m.keepsI (.cons _ (.refl _)) (j31) hE8 hf8) (y_v rfl (a0Y rfl)) ?_;refine a0n (by kernel_rfl) ?_;refine go 8 ?_;refine cb rfl (fun h35 p35=>?_) (fun h35 p35=>?_)
    ·have hok:¬(a0q c st (a0U l)[i]).2=0:=by simpa using p35
     refine go 3 ?_;refine a0t rfl (a0H (pl:=[(0,1)]) he he rfl rfl) ?_;refine go 3 ?_;refine a0o ?_;refine a0p _ he rfl rfl rfl rfl rfl rfl ?_;refine go 11 ?_;refine c2s rfl ⟨_,_,_,rfl,m0,.inr ⟨_,he,rfl,rfl⟩⟩ rfl rfl ?_
     have hr:a7U c l=([],((i:Nat):Int),(a0q c st (a0U l)[i]).2):=by unfold a7U;rw[if_neg (by simp[hC]),hgo,a8Q hlt,if_neg hok]
     exact q_i ⟨_,by rw[hr];rfl,by rw[hr];exact RdS.nil'⟩
    ·have hok:(a0q c st (a0U l)[i]).2=0:=by simpa using p35
     refine go 5 ?_;refine a0f ?_;refine a0p _ he rfl rfl rfl rfl rfl (by simp[hw31.one]) ?_;refine go 9 ?_;refine a0f ?_;refine a0b ?_;exact a1N (i+1) (_) (_) (_) ⟨by omega,hJ.trans j31,hw31,a6J hsf (hse _ (a4k.1 (List.getElem_mem hlt))),by rw[hgo,a8Q hlt,if_pos hok];rfl⟩ (by omega) rfl sb rfl
  ·refine go 9 ?_;refine a0f ?_;refine a0p _ he rfl rfl rfl rfl rfl (by simp[hv8.one]) ?_;refine go 5 ?_;refine c2s rfl ⟨_,_,_,rfl,m0,.inr ⟨_,he,rfl,rfl⟩⟩ rfl rfl ?_
   have hr:a7U c l=(st,-1,0):=by unfold a7U;rw[if_neg (by simp[hC]),hgo,List.drop_eq_nil_of_le (by omega)];rfl
   exact q_i ⟨_,by rw[hr],by rw[hr];exact hv8⟩
theorem c6N (I:IMap) (vc:Value) (c:List Kind) (hvc:RdS I vc c) (hsc:SmC c) (v:Value) (l:List Evt) (hv:RdS I v l) (hl:l.length≤1000000) (hse:∀e∈l,SmE e) (day:Int) :
    FnI Tryz.prog 114 #[.agg #[vc],v,.int .i64 day] I (fun u J=>∃w,u = .tuple #[.agg #[w],.int .i64 (a6K c l day).2.1,.int .i64 (a6K c l day).2.2]∧RdS J w (a6K c l day).1):=by
 refine enter Tryz.func114 Tryz.call114 rfl Tryz.ntmps114 rfl (fun w0=>?_);refine go 3 ?_;refine a0B _ rfl rfl rfl (fun g3=>?_);refine go 1 ?_;refine a0j he rfl (fun g6=>?_);refine go 5 ?_;refine a2Z (fun hE1 hf1=>?_);refine a1I T.mixed ?_;refine a0e 0 rfl rfl (by kernel_rfl) rfl (.cons _ (.refl _)) rfl (a3U m0 he rfl rfl) ?_;refine a0e 1 rfl rfl (by kernel_rfl) rfl (.cons _ (.refl _)) rfl (a0a rfl) ?_;refine a0e 2 rfl rfl (by kernel_rfl) rfl (.cons _ (.refl _)) rfl (a0a rfl) ?_;refine a0m 3 (by kernel_rfl) rfl ?_;refine a0O (c6O _ v l hv hl day) rfl rfl (fun v12 I12 j12 q12=>?_)
 have hvc:=hvc.le j12
 refine a0D (fun _ m=>m.keepsI (.cons _ (.refl _)) (j12) hE1 hf1) ?_;refine a0m 4 (by kernel_rfl) rfl ?_;refine a0O (b6l _ vc c hvc hsc _ (l.filter fun e=>!decide (e.day>day)) q12 (Nat.le_trans (List.length_filter_le _ _) hl) (fun e he=>hse e (List.mem_filter.1 he).1)) rfl rfl (fun v13 I13 j13 q13=>?_);obtain⟨w13,rfl,hw13⟩:=q13;refine a0D (fun _ m=>m.keepsI (.cons _ (.refl _)) ((j12).trans j13) hE1 hf1) ?_;refine d_t 5 rfl rfl (by kernel_rfl) rfl (fun _ m=>m.keepsI (.cons _ (.refl _)) ((j12).trans j13) hE1 hf1) (y_v rfl (a1C rfl rfl)) ?_;refine d_t 6 rfl rfl (by kernel_rfl) rfl (fun _ m=>m.keepsI (.cons _ (.refl _)) ((j12).trans j13) hE1 hf1) (y_v rfl (a1C rfl rfl)) ?_;refine d_t 7 rfl rfl (by kernel_rfl) rfl (fun _ m=>m.keepsI (.cons _ (.refl _)) ((j12).trans j13) hE1 hf1) (y_v rfl (a1C rfl rfl)) ?_;refine a0m 8 (by kernel_rfl) rfl ?_;refine a0p _ he rfl rfl rfl rfl rfl (by simp[RdS.one hw13]) ?_;refine a0D (fun _ m=>m.keepsI (.cons _ (.refl _)) ((j12).trans j13) hE1 hf1) ?_;refine d_t 9 rfl rfl (by kernel_rfl) rfl (fun _ m=>m.keepsI (.cons _ (.refl _)) ((j12).trans j13) hE1 hf1) (y_v rfl (a0Y rfl)) ?_;refine d_t 10 rfl rfl (by kernel_rfl) rfl (fun _ m=>m.keepsI (.cons _ (.refl _)) ((j12).trans j13) hE1 hf1) (y_v rfl (a0Y rfl)) ?_;refine a0n (by kernel_rfl) ?_;refine go 2 ?_;refine c2s rfl ⟨_,_,_,rfl,m0,.inr ⟨_,he,rfl,rfl⟩⟩ rfl rfl ?_;exact q_i ⟨_,rfl,hw13⟩
end Go.Proofs.YtdapmfkbpnjkmaaGreat
set_option linter.all false
namespace Go.Sx
open Go
section
variable {α β:Type} [Day α] [Day β]
theorem b5z (f:α→β) (hf:∀x,Day.day (f x)=Day.day x) (e:α):∀l:List α,(a8v e l).map f=a8v (f e) (l.map f)
 | []=>rfl
 |x::r=>by
  simp only[a8v,List.map_cons,hf]
  split
  ·rfl
  ·rw[List.map_cons,b5z f hf e r]
theorem b3A (f:α→β) (hf:∀x,Day.day (f x)=Day.day x):∀l:List α,(a0U l).map f=a0U (l.map f)
 | []=>rfl
 |x::r=>by
  show (a8v x (a0U r)).map f=a8v (f x) (a0U (r.map f))
  rw[b5z f hf,b3A f hf r]
theorem b7h {e:α} {l:List α} (h:∀x∈l,Day.day e≤Day.day x):a8v e l=e::l:=by
 cases l with
 |nil=>rfl
 |cons x r=>simp only[a8v];rw[if_pos (h x (by simp))]
theorem b2Q (p:α→Bool) (e:α):∀{l:List α},b2D l→(a8v e l).filter p=if p e=true then a8v e (l.filter p) else l.filter p
 | [],_=>by by_cases h:p e=true<;>simp[a8v,h]
 |x::r,hs=>by
  have hs':=List.pairwise_cons.1 hs
  simp only[a8v]
  by_cases hd:Day.day e≤Day.day x
  ·rw[if_pos hd,List.filter_cons]
   by_cases h:p e=true
   ·rw[if_pos h,if_pos h,b7h];intro y hy
    rcases List.mem_cons.1 (List.mem_filter.1 hy).1 with rfl|hy
    ·exact hd
    ·exact Int.le_trans hd (hs'.1 y hy)
   ·rw[if_neg h,if_neg h]
  ·rw[if_neg hd,List.filter_cons,b2Q p e hs'.2,List.filter_cons]
   by_cases h:p e=true
   ·rw[if_pos h,if_pos h]
    by_cases hx:p x=true
    ·rw[if_pos hx,if_pos hx];simp only[a8v];rw[if_neg hd]
    ·rw[if_neg hx,if_neg hx]
   ·rw[if_neg h,if_neg h]
theorem b0T (p:α→Bool):∀l:List α,(a0U l).filter p=a0U (l.filter p)
 | []=>rfl
 |x::r=>by
  show (a8v x (a0U r)).filter p=_
  rw[b2Q p x (a3J r),b0T p r,List.filter_cons]
  split<;>rfl
end
def a1P (c:List Kind):List Part→List Evt→Option (List Part)
 |st,[]=>some st
 |st,e::r=>if (a0q c st e).2=0 then a1P c (a0q c st e).1 r else none
theorem b6r (c:List Kind):∀(a b:List Evt) (st:List Part),a1P c st (a++b)=(a1P c st a).bind fun s=>a1P c s b
 | [],_,_=>rfl
 |e::r,b,st=>by
  simp only[List.cons_append,a1P]
  split
  ·exact b6r c r b _
  ·rfl
theorem c0I (c:List Kind):∀(l:List Evt) (st:List Part) (z:Int),(a1P c st l).isSome=decide ((a5H c st z l).2.2=0)
 | [],_,_=>rfl
 |e::r,st,z=>by
  simp only[a1P,a5H]
  split
  ·exact c0I c r _ _
  ·rename_i h;simp[h]
theorem a9n (c:List Kind):∀(l:List Pkd) (st:List Part),decide ((a3m c st l).2=0)=(a1P c st (l.map Pkd.e)).isSome
 | [],_=>rfl
 |p::r,st=>by
  simp only[List.map_cons,a1P,a3m]
  split
  ·exact a9n c r _
  ·rename_i h;simp[h]
theorem b0t (c:List Kind):∀(a b:List Pkd) (st:List Part),a3m c st (a++b)=match a1P c st (a.map Pkd.e) with|some s=>a3m c s b|none=>a3m c st a
 | [],_,_=>rfl
 |p::r,b,st=>by
  simp only[List.cons_append,List.map_cons,a1P,a3m]
  split
  ·rw[b0t c r b]
  ·rfl
end Go.Sx
set_option linter.all false
namespace Go.Sx
open Go
structure Rst (k:Nat) where
 l:List (List Value)
 uk:Uk k l
theorem a0z (l:List Pkd):Uk 15 (a1H l):=b8W l
theorem b6Z {I:IMap} (l:List Pkd):FlatC I (a1H l) l:=by
 induction l with
 |nil=>exact .nil
 |cons e l ih=>exact .cons rfl ih
theorem a1a {l:List Pkd} {rest:List (List Value)} {i:Nat} (h:i<l.length):(a1H l++rest)[i]? = some (Day.ch l[i]):=by
 rw[List.getElem?_append_left (by rw[a0J];exact h)];exact a1G h
section
variable {α:Type} [Day α]
theorem a6R (l:List α) (rest:List (List Value)) (i:Nat) (h:i<l.length) (e:α):(a1H l++rest).set i (Day.ch e)=a1H (l.set i e)++rest:=by
 rw[List.set_append_left _ _ (by rw[a0J];exact h),a5W]
theorem a4d {l:List α} {rest:List (List Value)} {i j:Nat} (hi:i<l.length) (hj:j<l.length):((a1H l++rest).set i (Day.ch l[j])).set j (Day.ch l[i])=a1H (swp l i j)++rest:=by
 rw[a6R _ _ _ hi,a6R _ _ _ (by rw[List.length_set];exact hj),b0W hi hj]
theorem a3v {l:List α} {rest:List (List Value)} {i j:Nat} (hi:i<l.length) (hj:j<l.length) (hij:i≠j):((a1H l++rest).set j (Day.ch l[i])).set i (Day.ch l[j])=a1H (swp l i j)++rest:=by
 rw[a6R _ _ _ hj,a6R _ _ _ (by rw[List.length_set];exact hi),b0W hi hj,List.set_comm _ _ hij.symm]
end
theorem c2g {I:IMap} {xss:List (List Value)} {l:List Pkd} (h:FlatC I xss l):xss=a1H l:=by
 induction h with
 |nil=>rfl
 |cons h1 _ ih=>rw[ih];simp only[a1H,List.map_cons];rw[show _=_ from h1];rfl
theorem a7o {a b:Int}:a-b<0↔a<b:=by omega
theorem b4f {l:List Pkd} {i j:Nat} {hi:i<l.length} {hj:j<l.length} (h:Day.day l[i]-Day.day l[j]<0):a0I l i<a0I l j:=by
 rw[a7o]at h;rw[a1x hi,a1x hj];exact h
theorem b4e {l:List Pkd} {i j:Nat} {hi:i<l.length} {hj:j<l.length} (h:¬Day.day l[i]-Day.day l[j]<0):a0I l j≤a0I l i:=by
 rw[a7o]at h;rw[a1x hi,a1x hj];omega
section
variable {P:Program} {ρ:Option Nat} {n:Sz} {E:Ent} {I I':IMap} {L:LL} {H:List Res} {Q:Exit→Act→World→Prop} {ops:Array Oper} {K:Act→World→Prop} {w0:World}
variable {d ty:Nat} {pos:String} {af:Array Edge} {fo:Operand} {as_:List Operand} {ats:Array TypeId} {f:FuncId} {args:List Value} {r r':Res} {X:List Nat}
def FnG (P:Program) (f:FuncId) (args:Array Value) (I:IMap) (r:Res) (p:Value→IMap→Res→Prop):Prop:=FnH P f args I [r] fun u I' H'=>∃r',H'=[r']∧p u I' r'
theorem a7K {p:Value→IMap→Res→Prop} (hc:FnG P f args.toArray I r p) (h:a1R L fo as_=some (f,args)) (hd:Nat.blt d n.sz=true) (k:∀v I' r',ILe I I'→p v I' r'→SX n E I' ((d,v)::L) (r'::H) K) :
  SX n E I L (r::H) (one P ops Q ⟨some d,.call { callee:=.value fo,args:=as_.toArray,argTypes:=ats },ty,pos,af,none⟩ K):=
 a4o (Hc:=[r]) (H0:=H) hc h hd fun u I' H' hI hp=>by obtain⟨r',rfl,h1⟩:=hp;exact k u I' r' hI h1
theorem q_g {v:Value} {p:Value→IMap→Res→Prop} (h:p v I r):SX n E I L [r] fun _ w=>a8U E (fun u' I' H'=>∃r',H'=[r']∧p u' I' r') (.returned v) w:=a4I (fun _ m=>m) ⟨r,rfl,h⟩
theorem FnX.of_V {args:Array Value} {v:Value} {t k:Nat} (h:FnV P f args I v):FnX P f args I [] (fun u r=>u=v∧r = .row (.slice none 0 0) t k 0 []):=
 ⟨fun w m=>(h.go w m).mono fun _ _ ⟨u,I',H',he,hm,hq⟩=>by
  obtain⟨rfl,rfl,rfl⟩:=hq
  exact⟨_,_,_,he,hm.nilrow t k,rfl,_,rfl,rfl,rfl⟩⟩
theorem FnX.back {args:Array Value} {g e k m cap:Nat} {xss yss rest:List (List Value)} {p:Value→Res→Prop} (hU:Uk k yss) (hR:Uk k rest) (hm:yss.length=m) (hc:m+rest.length=cap) (hl:cap≤maxLen)
  (h:FnX P f args I [.blk g e (xss++rest).flatten] (fun u r=>p u (.row (.slice (some ⟨g,0,none⟩) m cap) e k m yss.flatten)∧r = .blk g e (yss++rest).flatten)):FnX P f args I [.blk g e (xss++rest).flatten] p:=
 ⟨fun w m'=>(h.go w m').mono fun _ w' ⟨u,I',H',he,hm',hq⟩=>by
  obtain⟨rfl,r',rfl,hp,rfl⟩:=hq;refine⟨_,_,_,he,?_,rfl,_,rfl,hp⟩
  have hb:w'.heap[g]? = some (.cells (yss++rest).flatten.toArray e (0,0)):=hm'.blk
  exact hm'.step rfl ⟨rfl,Nat.le_refl _⟩ rfl (Nat.le_refl _) (fun _ _ _=>rfl) (IsRow.shut hb hU hR hm hc hl) (fun g' hg'=>.inl hg')⟩
theorem FnX.of_rowV {args:Value→List Value} {p:Value→Res→Prop} {v:Value} {e k m:Nat} {xss:List (List Value)} (hU:Uk k xss) (hm:xss.length=m)
  (h0:m=0→v = .slice none 0 0→FnX P f (args (.slice none 0 0)).toArray I [] p)
  (h1:∀g cap rest,v = .slice (some ⟨g,0,none⟩) m cap→Uk k rest→m+rest.length=cap→cap≤maxLen→FnX P f (args (.slice (some ⟨g,0,none⟩) m cap)).toArray I [.blk g e (xss++rest).flatten] p):FnX P f (args v).toArray I [.row v e k m xss.flatten] p:=by
 refine⟨fun w mm=>?_⟩
 have hr:IsRow (b2U w) v e k m xss.flatten:=mm.holds (.row v e k m xss.flatten) (List.mem_cons_self ..)
 rcases hr.open_ hU hm with ⟨h2,h3⟩|⟨g,cap,rest,h2,h3,h4,h5,h6⟩
 ·subst h3;exact (h0 h2 rfl).go w mm.drop
 ·subst h2;exact (h1 g cap rest rfl h3 h4 h5).go w (mm.step rfl ⟨rfl,Nat.le_refl _⟩ rfl (Nat.le_refl _) (fun _ _ _=>rfl) h6 (fun g' hg'=>.inl hg'))
end
theorem c3b (day:Int) (l:List Rep) (ch:List Int) (i:Nat):(a3f day l ch i).length≤i:=by
 unfold a3f;exact Nat.le_trans (List.length_filterMap_le _ _) (by simp)
section
variable {day:Int} {l:List Rep} {ch:List Int} {i:Nat} {out:List Pkd}
theorem c6B (h1:i<l.length) (h2:i<ch.length) (hw:a3f day l ch i=out) (h:a3L day l[i] ch[i]=none):a3f day l ch (i+1)=out:=by
 rw[a5l,hw,pkd,a2K h1 h2,h];simp
theorem c8T (h1:i<l.length) (h2:i<ch.length) (hw:a3f day l ch i=out) (h:¬0≤ch[i]):a3f day l ch (i+1)=out:=c6B h1 h2 hw (if_neg h)
theorem c8S (h1:i<l.length) (h2:i<ch.length) (hw:a3f day l ch i=out) (h:¬ch[i]<(l[i].options.length:Nat)):a3f day l ch (i+1)=out:=c6B h1 h2 hw (by
 unfold a3L
 split
 ·rw[List.getElem?_eq_none (by omega)]
 ·rfl)
theorem c6A (h1:i<l.length) (h2:i<ch.length) (hw:a3f day l ch i=out) (hk:ch[i].toNat<l[i].options.length) (h:¬l[i].options[ch[i].toNat].day<day):a3f day l ch (i+1)=out:=c6B h1 h2 hw (by
 unfold a3L
 split
 ·simp only[List.getElem?_eq_getElem hk];rw[if_neg h]
 ·rfl)
theorem c8U (h1:i<l.length) (h2:i<ch.length) (hw:a3f day l ch i=out) (h0:0≤ch[i]) (hk:ch[i].toNat<l[i].options.length) (h:l[i].options[ch[i].toNat].day<day) (hv:0≤l[i].options[ch[i].toNat].day∧l[i].options[ch[i].toNat].day≤40000) :
  a3f day l ch (i+1)=out++[⟨l[i].options[ch[i].toNat],i,hv.1,hv.2⟩]:=by
 have ho:a3L day l[i] ch[i]=some l[i].options[ch[i].toNat]:=by
  unfold a3L;rw[if_pos h0]
  simp only[List.getElem?_eq_getElem hk];rw[if_pos h]
 rw[a5l,hw,pkd,a2K h1 h2,ho]
 simp[hv]
end
theorem a9o {c:List Kind} {st:List Part} {l:List Pkd} {i:Nat} (hi:i<l.length):a3m c st (l.drop i)=if (a0q c st l[i].e).2=0 then a3m c (a0q c st l[i].e).1 (l.drop (i+1)) else (l[i].rep,(a0q c st l[i].e).2):=by
 rw[List.drop_eq_getElem_cons hi];rfl
theorem b3c (l:List Rep) (ch:List Int) (i:Nat):a1A l ch (i+1)=a1A l ch i++((at2 (fun r k=>if k<0 then r.options.map Evt.day else []) l ch i).getD []):=by
 rw[a1A,List.range_succ,List.flatMap_append,a1A];simp
def a5j (l:List Rep) (ch:List Int) (i j:Nat):List Int:=a1A l ch i++((at2 (fun r k=>if k<0 then (r.options.take j).map Evt.day else []) l ch i).getD [])
theorem b4B {l:List Rep} {ch:List Int} {i:Nat}:a5j l ch i 0=a1A l ch i:=by
 unfold a5j at2
 split
 ·simp
 ·simp
theorem b4A {l:List Rep} {ch:List Int} {i j:Nat} (h1:i<l.length) (h2:i<ch.length) (h:¬ch[i]<0) (j':Nat):a5j l ch i j=a5j l ch i j':=by
 unfold a5j;rw[a2K h1 h2,a2K h1 h2];simp[h]
theorem a9z {l:List Rep} {ch:List Int} {i j:Nat} (h1:i<l.length) (h2:i<ch.length) (h:ch[i]<0) (hj:j<l[i].options.length):a5j l ch i (j+1)=a5j l ch i j++[l[i].options[j].day]:=by
 unfold a5j;rw[a2K h1 h2,a2K h1 h2];simp only[if_pos h,Option.getD_some];rw[←a0i hj,List.map_append,List.append_assoc];rfl
theorem b0I {l:List Rep} {ch:List Int} {i:Nat} (h1:i<l.length) (h2:i<ch.length):a5j l ch i l[i].options.length=a1A l ch (i+1):=by
 rw[b3c,a5j,a2K h1 h2,a2K h1 h2];simp[List.take_length]
theorem c2X {l:List Rep} {ch:List Int} {n i:Nat} (h:i≤n):a1A l ch i <+: a1A l ch n:=by
  induction n with
  | zero => obtain rfl : i = 0 := by omega
            exact List.prefix_rfl
  |succ n ih=>
    rcases Nat.lt_or_ge n i with hi|hi
    · obtain rfl:i=n+1:=by omega
      exact List.prefix_rfl
    · exact (ih hi).trans (by rw[b3c];exact List.prefix_append _ _)
theorem b7y {l:List Rep} {ch:List Int} {i j:Nat} (h1:i<l.length) (h2:i<ch.length) (h:ch[i]<0) (hj:j<l[i].options.length):a5j l ch i j++[l[i].options[j].day] <+: a1A l ch l.length:=by
 rw[←a9z h1 h2 h hj];refine List.IsPrefix.trans ?_ (c2X (i:=i+1) (by omega));rw[←b0I h1 h2];unfold a5j;rw[a2K h1 h2,a2K h1 h2]
 simp only[if_pos h,Option.getD_some]
 refine (List.prefix_append_right_inj _).2 ?_;rw[List.take_length,List.map_take];exact List.take_prefix _ _
theorem a2S {r:Rep} (h:a0w r=true):1≤r.options.length∧r.options.length≤4:=by
 simp only[a0w,Bool.and_eq_true,Bool.not_eq_true',Bool.or_eq_false_iff,decide_eq_false_iff_not]at h
 omega
theorem c3c {day:Int} {l:List Rep} {ch:List Int} {n:Nat} {p:Pkd} (h:p∈a3f day l ch n):∃r∈l,p.e∈r.options:=by
 rw[a3f,List.mem_filterMap]at h
 obtain⟨i,_,hi⟩:=h;unfold pkd at2 at hi
 split at hi
 ·rename_i e he
  split at hi
  ·cases hi
   split at he
   ·rename_i r k h1 h2
    refine⟨r,List.mem_of_getElem? h1,?_⟩
    simp only[Option.join_some,a3L]at he
    split at he
    ·split at he
     ·rename_i e' h3
      split at he
      ·cases he;exact List.mem_of_getElem? h3
      ·cases he
     ·cases he
    ·cases he
   ·simp at he
  ·cases hi
 ·cases hi
theorem a2g {c:List Kind} {l:List Rep} {ch:List Int} {n:Int} (h:a1E c l ch n=true):ch.length=l.length∧∀r∈l,a0w r=true:=by
 simp only[a1E,Bool.and_eq_true,Bool.not_eq_true',Bool.or_eq_false_iff,Bool.not_eq_false',decide_eq_true_eq]at h
 have hlc:ch.length=l.length:=by omega
 refine⟨hlc,fun r hr=>?_⟩;obtain⟨i,hi,rfl⟩:=List.getElem_of_mem hr
 have:=b1f h.2 hi hi (by omega)
 simp only[a8c,Bool.not_eq_true',Bool.or_eq_false_iff,decide_eq_false_iff_not]at this
 cases hv:a0w l[i]with
 |true=>rfl
 |false=>exact absurd (by simp[chs,hv]) this.1.1
theorem b7n (l:List Int) (d:Int):a5g (l++[d])=if d<a5g l then d else a5g l:=by
 rw[a5g,List.foldl_append];rfl
def c9T (e:Evt):Value:=.agg e.cells.toArray
end Go.Sx
set_option linter.all false
namespace Go.Sx
open Go
def c7I (P:Program):Nat→TypeId→Value→Bool
 |0,_,_=>false
 |d+1,t,x=>match P.underlying t with
  |some .bool|some (.int _)|some .string=>true
  |some (.struct fs)=>match x with
   |.agg xs=>fs.toList.all fun f=>match b3h P f.type xs.toList f.offset with|some v=>c7I P d f.type v|none=>false
   |_=>false
  |_=>false
theorem b5m {P:Program} {b:Bool}:∀(d:Nat) (t:TypeId) (v:Value),c7I P d t v=true→∀(n:Nat),d≤n→∀w:World,(Instr.checkKey b n t v).run P w = .ok () w
 |0,_,_,h,_,_,_=>by simp[c7I]at h
 |d+1,t,v,h,n,hn,w=>by
  obtain⟨n,rfl⟩:∃q,n=q+1:=⟨n-1,by omega⟩;rw[c7I]at h
  rw[Instr.checkKey]
  split at h
  ·rename_i hu;simp[run_underlying hu]
  ·rename_i hu;simp[run_underlying hu]
  ·rename_i hu;simp[run_underlying hu]
  ·rename_i fs hu
   split at h
   ·rename_i xs
    simp only[Sem.run_bind,run_underlying hu,Result.andThen_ok]
    rw[←Array.forIn_toList]
    have key:∀l:List Field,(∀f∈l,(match b3h P f.type xs.toList f.offset with|some v=>c7I P d f.type v|none=>false)=true)→∀w:World,
      (forIn l PUnit.unit fun f (_:PUnit)=>do
       if f.name ≠ "_" then do
        let __do_lift ←part f.type xs f.offset
        Instr.checkKey b n f.type __do_lift
        pure PUnit.unit
        pure (ForInStep.yield PUnit.unit)
       else do
        pure PUnit.unit
        pure (ForInStep.yield PUnit.unit):Sem PUnit).run P w = .ok () w:=by
     intro l
     induction l with
     |nil=>intro _ w;simp
     |cons f l ih=>
      intro hl w
      have h1:=hl f (by simp)
      split at h1
      ·rename_i v hv
       have e1:=a5N hv w
       have e2:=b5m (b:=b) d f.type v h1 n (by omega) w
       have e3:=ih (fun g hg=>hl g (by simp[hg])) w
       rw[List.forIn_cons]
       by_cases hf : f.name ≠ "_"
       ·simp only[if_pos hf,Sem.run_bind,e1,Result.andThen_ok,e2,Sem.run_pure]
        exact e3
       ·simp only[if_neg hf,Sem.run_bind,Result.andThen_ok,Sem.run_pure]
        exact e3
      ·cases h1
    have:=key fs.toList (by rw[List.all_eq_true]at h;exact h) w
    rw[this]
    simp
   ·cases h
  ·cases h
def c1b (P:Program) (kt:TypeId):Bool:=match P.underlying kt with
 |some (.struct _)=>true
 |_=>false
theorem b0x {κ:Type} [DecidableEq κ] {P:Program} {kt:TypeId} {cells:κ→List Value} (h:c1b P kt=true) (he:∀p q,eqV P 9 kt (.agg (cells p).toArray) (.agg (cells q).toArray)=some (decide (p=q)))
  (hc:∀p,c7I P 9 kt (.agg (cells p).toArray)=true) (hb:∀p,(cells p).all (fun v=>Instr.sameBits 9999 v v)=true):KeyOK P kt (fun p=>.agg (cells p).toArray) where
 find:=by
  obtain⟨fs,h1⟩:∃fs,P.underlying kt=some (.struct fs):=by
   unfold c1b at h
   split at h
   ·rename_i fs hfs;exact⟨fs,hfs⟩
   ·cases h
  intro w k es kvs hes
  have key:∀(es:List MapEntry) (kvs:List (κ×Value)) (i:Nat),es.map (fun e=>(e.key,e.val))=a2E (fun p=>.agg (cells p).toArray) kvs→(Instr.findAsking kt (.agg (cells k).toArray) es i).run P w = .ok (a4g kvs k i) w:=by
   intro es
   induction es with
   |nil=>intro kvs i he;cases kvs<;>simp_all [a2E,Instr.findAsking,a4g]
   |cons e es ih=>
    intro kvs i hes
    cases kvs with
    |nil=>simp[a2E]at hes
    |cons p kvs=>
     obtain⟨k',v⟩:=p
     simp only[List.map_cons,a2E,List.cons.injEq,Prod.mk.injEq]at hes
     obtain⟨⟨h1,h2⟩,h3⟩:=hes
     have hr:=b1v (P:=P) 9 kt _ _ _ (he k k') 10000 (by omega) w
     simp only[Instr.findAsking,h1,Sem.run_bind,Op.equal,Op.maxDepth,hr,Result.andThen_ok]
     by_cases hk:k'=k
     ·subst hk;simp[a4g,h2]
     ·have:¬k=k':=fun e=>hk e.symm
      simp only[this,decide_false,Bool.false_eq_true,if_false,a4g,if_neg hk]
      exact ih kvs (i+1) h3
  simp only[Instr.findKey,Sem.run_bind,run_underlying h1,Result.andThen_ok]
  cases es with
  |nil=>cases kvs<;>simp_all [a2E,Instr.findNow,a4g]
  |cons e es=>
   have:Instr.findNow (.struct fs) (.agg (cells k).toArray) (e::es) 0=none:=by simp[Instr.findNow,Instr.sameNow]
   simp only[this]
   exact key _ kvs 0 hes
 check:=fun w b k=>b5m 9 kt _ (hc k) 10000 (by omega) w
 same:=by
  intro k
  show Instr.sameBits (9999+1) (.agg (cells k).toArray) (.agg (cells k).toArray)=true
  have:=hb k
  rw[List.all_eq_true]at this
  simp only[Instr.sameBits,beq_self_eq_true,Bool.true_and,List.all_eq_true]
  intro p hp;obtain⟨i,hi,rfl⟩:=List.getElem_of_mem hp
  simp only[List.getElem_zip]
  exact this _ (List.getElem_mem _)
theorem b5j (n:Nat) (s:ByteArray):Instr.sameBits n (.string s) (.string s)=true:=by
 have hs:(s == s)=true:=by rw[b5h];simp
 cases n<;>simp[Instr.sameBits,hs]
theorem b5i (n:Nat) (k:IntKind) (i:Int):Instr.sameBits n (.int k i) (.int k i)=true:=by cases n<;>simp[Instr.sameBits]
end Go.Sx
namespace Go.Proofs.YtdapmfkbpnjkmaaGreat
open Go Go.Sx
set_option linter.all false
set_option maxRecDepth 20000
set_option maxHeartbeats 4000000
instance T.elt_25:Has (a8r Tryz.prog 25) (64,2):=⟨by kernel_rfl⟩
instance T.elt_65:Has (a8r Tryz.prog 65) (3,1):=⟨by kernel_rfl⟩
instance T.fld_64_0:Has (a3Q Tryz.prog 64 0) (0,false,1):=⟨by kernel_rfl⟩
instance T.fld_64_1:Has (a3Q Tryz.prog 64 1) (1,false,1):=⟨by kernel_rfl⟩
instance T.ty_25:Has (tyK Tryz.prog 25) (false,1):=⟨by kernel_rfl⟩
instance T.ty_64:Has (tyK Tryz.prog 64) (true,2):=⟨by kernel_rfl⟩
instance T.ty_65:Has (tyK Tryz.prog 65) (false,1):=⟨by kernel_rfl⟩
instance T.und_126:Has (Tryz.prog.underlying 126) (.map 96 4):=⟨by kernel_rfl⟩
instance T.und_25:Has (Tryz.prog.underlying 25) (.slice 64):=⟨by kernel_rfl⟩
instance T.und_65:Has (Tryz.prog.underlying 65) (.slice 3):=⟨by kernel_rfl⟩
instance T.zero_64:Has (a2t Tryz.prog 64) [.slice none 0 0,.bool false]:=⟨by kernel_rfl⟩
theorem c4L:KeyOK Tryz.prog 96 c9T:=b0x (cells:=Evt.cells) (by kernel_rfl) (fun p q=>b1t p q) (fun p=>by kernel_rfl) (fun p=>by simp[Evt.cells,b5j,b5i])
theorem b2g (I:IMap) (r:Rep) (S:Option Addr) (d:Nat) (hr:RdS I (.slice S r.options.length d) r.options) (hs:∀e∈r.options,SmE e) :
    FnV Tryz.prog 34 #[.agg (r.cells (.slice S r.options.length d)).toArray] I (.bool (a0w r)):=by
 have hSA:RdA I S r.options:=(by obtain⟨_,_,e,h,_⟩:=hr;cases e;exact h)
 have hl4:d≤9223372036854775807:=(by obtain⟨_,_,e,h,h1,h2⟩:=hr;cases e;exact h2)
 have hl5:=hr.lenLe
 refine enter Tryz.func34 Tryz.call34 rfl Tryz.ntmps34 rfl (fun w0=>?_);refine go 3 ?_;refine a0B _ rfl rfl rfl (fun g1=>?_);refine go 5 ?_;refine a2I (I':=I) (L':=[(1,.pointer (some ⟨g1,0,none⟩)),(15,.bool (decide (((r.options.length:Nat):Int)=0)||decide ((4:Int)<(r.options.length:Nat))))]) (H':=[.blk g1 64 (r.cells (.slice S r.options.length d))]) ?_ ?_
 ·refine go 6 ?_;refine sxb 10 rfl (fun h10 p10=>?_) (fun h10 p10=>?_)
  ·refine go 7 ?_;exact a0L ⟨rfl,(congrArg (fun b=>some (Value.bool b)) (by simp only[h10,bS])),trivial⟩ rfl rfl
  ·refine go 7 ?_;exact a0L ⟨rfl,(congrArg (fun b=>some (Value.bool b)) (by simp only[h10,bS])),trivial⟩ rfl rfl
 ·refine cb rfl (fun h15 p15=>?_) (fun h15 p15=>?_)
  ·refine go 7 ?_;refine a0s rfl rfl ?_;exact q_v (congrArg Value.bool (by simp only[a0w,h15];rfl))
  ·refine go 5 ?_;refine a7h (c9T) he rfl (fun r16=>?_);refine go 13 ?_
   refine a0Q (α:=Nat) 0 (fun i=>I)
    (fun i=>[(1,.pointer (some ⟨g1,0,none⟩)),(3,.map (some r16)),(18,.slice S r.options.length d),(19,.int .i64 ((r.options.length:Nat):Int)),(20,.int .i64 ((i:Nat):Int))])
    (fun i=>[.mp r16 (a2E c9T (a3e _root_.id (fun _=>Value.bool true) (r.options.take i))),.blk g1 64 (r.cells (.slice S r.options.length d))])
    (fun i=>i≤r.options.length∧a3h a4F r.options i=true)
    (fun i=>r.options.length-i) ⟨Nat.zero_le _,rfl⟩ rfl sb rfl ?_
   intro i ⟨hi,hn⟩;refine go 6 ?_;refine cb rfl (fun h21 p21=>?_) (fun h21 p21=>?_)
   ·have hlt:i<r.options.length:=by omega
    refine go 6 ?_;obtain⟨b22,o22,w22,e22,c22,r22⟩:=RdA.at_ hSA (i:=i) hlt;obtain rfl:=r22;refine o_v rfl (a0h he rfl rfl e22 (i) (by omega) hlt) ?_;refine o_v rfl (a0G he rfl c22 rfl) ?_;refine go 1 ?_;refine a0j he rfl (fun g5=>?_);refine go 1 ?_;refine a0p _ he rfl rfl rfl rfl rfl rfl ?_;refine go 4 ?_;refine a2I (I':=I) (L':=[(1,.pointer (some ⟨g1,0,none⟩)),(3,.map (some r16)),(18,.slice S r.options.length d),(19,.int .i64 ((r.options.length:Nat):Int)),(20,.int .i64 ((i:Nat):Int)),(5,.pointer (some ⟨g5,0,none⟩)),(31,.bool (hit _root_.id (r.options.take i) r.options[i] || !a1t r.options[i]))]) (H':=[.blk g5 96 r.options[i].cells,.mp r16 (a2E c9T (a3e _root_.id (fun _=>Value.bool true) (r.options.take i))),.blk g1 64 (r.cells (.slice S r.options.length d))]) ?_ ?_
    ·refine go 3 ?_;refine o_v rfl (c1t m1 (c4L) he he (r.options[i]) rfl rfl (a8E _root_.id _ _)) ?_;refine go 1 ?_;refine sxb 27 rfl (fun h27 p27=>?_) (fun h27 p27=>?_)
     ·refine go 6 ?_;exact a0L ⟨rfl,rfl,rfl,rfl,rfl,rfl,(congrArg (fun b=>some (Value.bool b)) (by simp only[h21,h27,bS])),trivial⟩ rfl rfl
     ·refine go 2 ?_;refine a0R rfl rfl h27 (a0d (b4h _ r.options[i] (hs _ (List.getElem_mem hlt))) rfl rfl ?_);refine go 4 ?_;exact a0L ⟨rfl,rfl,rfl,rfl,rfl,rfl,(congrArg (fun b=>some (Value.bool b)) (by simp only[h21,h27,bS])),trivial⟩ rfl rfl
    ·refine cb rfl (fun h31 p31=>?_) (fun h31 p31=>?_)
     ·refine go 12 ?_;refine a0s rfl rfl ?_;exact q_v (congrArg Value.bool (by simp only[a0w,h15,a1j hlt (show a4F (r.options.take i) r.options[i]=false from (congrArg not h31).trans rfl),bS]))
     ·refine go 6 ?_
      have h31n:hit _root_.id (r.options.take i) r.options[i]=false:=by revert h31;cases hit _root_.id (r.options.take i) r.options[i]<;>simp
      refine a0f ?_;refine a4w (a3e _root_.id (fun _=>Value.bool true) (r.options.take (i+1))) (c4L) he (r.options[i]) rfl rfl rfl ((a9u _root_.id (fun _=>Value.bool true) (r.options.take i) r.options[i] (a6Y h31n)).trans (by rw[a0i hlt])) ?_;refine go 8 ?_;refine a0f ?_;refine a0b ?_;exact a0M (i+1) ⟨by omega,a1v hn hlt (show a4F (r.options.take i) r.options[i]=true from (congrArg not h31).trans rfl)⟩ (by omega) rfl sb rfl
   ·refine go 11 ?_;refine a0s rfl rfl ?_
    have e:i=r.options.length:=(by omega)
    subst e;exact q_v (congrArg Value.bool (by simp only[a0w,hn,h15];rfl))
theorem a5n (I:IMap) (r:Rep) (S:Option Addr) (d:Nat) (hr:RdS I (.slice S r.options.length d) r.options) (hs:∀e∈r.options,SmE e) :
    FnV Tryz.prog 32 #[.agg (r.cells (.slice S r.options.length d)).toArray] I (.int .i64 (chs r)):=by
 have hl5:=hr.lenLe
 refine enter Tryz.func32 Tryz.call32 rfl Tryz.ntmps32 rfl (fun w0=>?_);refine go 3 ?_;refine a0B _ rfl rfl rfl (fun g1=>?_);refine go 9 ?_;refine a0d (b2g _ r S d hr hs) rfl rfl ?_;refine go 4 ?_;refine cb rfl (fun h3 p3=>?_) (fun h3 p3=>?_)
 ·refine go 8 ?_;refine a0s rfl rfl ?_;exact q_v (congrArg (Value.int .i64) (by simp only[chs,show a0w r=false by simpa using h3,Bool.true_eq_false,Bool.false_eq_true,if_true,if_false]))
 ·have hl4:=a2S (r:=r) (by simpa using h3)
  refine go 7 ?_;refine cb rfl (fun h7 p7=>?_) (fun h7 p7=>?_)
  ·refine go 5 ?_;refine o_v rfl (a2d rfl rfl ⟨by omega,by have:=hl4;omega⟩) ?_;refine go 6 ?_;refine a0s rfl rfl ?_;exact q_v (congrArg (Value.int .i64) (by simp only[chs,show a0w r=true by simpa using h3,h7,Bool.true_eq_false,Bool.false_eq_true,if_true,if_false]))
  ·refine go 12 ?_;refine a0s rfl rfl ?_;exact q_v (congrArg (Value.int .i64) (by simp only[chs,show a0w r=true by simpa using h3,h7,Bool.true_eq_false,Bool.false_eq_true,if_true,if_false]))
theorem b9p (I:IMap) (vc:Value) (c:List Kind) (hvc:RdS I vc c) (hsc:SmC c) (v:Value) (l:List Rep) (hv:RdS I v l) (hsl:∀r∈l,∀e∈r.options,SmE e) (w:Value) (ch:List Int) (hw:RdS I w ch) (n:Int) :
    FnV Tryz.prog 241 #[.agg #[vc],v,w,.int .i64 n] I (.bool (a1E c l ch n)):=by
 obtain⟨A,c0,rfl,hA,hc,hm⟩:=hv;obtain⟨B,c1,rfl,hB,hc1,hm1⟩:=hw;refine enter Tryz.func241 Tryz.call241 rfl Tryz.ntmps241 rfl (fun w0=>?_);refine go 3 ?_;refine a0B _ rfl rfl rfl (fun g4=>?_);refine go 5 ?_;refine a2I (I':=I) (L':=[(4,.pointer (some ⟨g4,0,none⟩)),(1,.slice A l.length c0),(2,.slice B ch.length c1),(3,.int .i64 n),(21,.bool (!a1g c || !decide (((ch.length:Nat):Int)=(l.length:Nat))))]) (H':=[.blk g4 24 [vc]]) ?_ ?_
 ·refine go 3 ?_;refine a0d (a6L _ vc c hvc hsc) rfl rfl ?_;refine go 2 ?_;refine sxb 15 rfl (fun h15 p15=>?_) (fun h15 p15=>?_)
  ·refine go 8 ?_;exact a0L ⟨rfl,rfl,rfl,rfl,(congrArg (fun b=>some (Value.bool b)) (by simp only[h15,bS])),trivial⟩ rfl rfl
  ·refine go 8 ?_;exact a0L ⟨rfl,rfl,rfl,rfl,(congrArg (fun b=>some (Value.bool b)) (by simp only[h15,bS])),trivial⟩ rfl rfl
 ·refine cb rfl (fun h21 p21=>?_) (fun h21 p21=>?_)
  ·refine go 7 ?_;refine a0s rfl rfl ?_;exact q_v (congrArg Value.bool (by simp only[a1E,h21];rfl))
  ·have hlc:ch.length=l.length:=by revert h21;simp;omega
   refine go 11 ?_
   refine a0Q (α:=Nat) 0 (fun i=>I)
    (fun i=>[(4,.pointer (some ⟨g4,0,none⟩)),(1,.slice A l.length c0),(2,.slice B ch.length c1),(3,.int .i64 n),(22,.slice A l.length c0),(23,.int .i64 ((l.length:Nat):Int)),(24,.int .i64 ((i:Nat):Int))])
    (fun i=>[.blk g4 24 [vc]])
    (fun i=>i≤l.length∧a6F (a8c n) l ch i=true)
    (fun i=>l.length-i) ⟨Nat.zero_le _,rfl⟩ rfl sb rfl ?_
   intro i ⟨hi,hn⟩;refine go 6 ?_;refine cb rfl (fun h25 p25=>?_) (fun h25 p25=>?_)
   ·have hlt:i<l.length:=by omega
    have hlt2:i<ch.length:=by omega
    refine go 7 ?_;obtain⟨b27,o27,w27,e27,c27,r27⟩:=RdA.at_ hA (i:=i) hlt;obtain⟨q27,rfl,S27,d27,rfl,hS27,hd27,hm27⟩:=r27;refine o_v rfl (a0h he rfl rfl e27 (i) (by omega) hlt) ?_;refine o_v rfl (a0G he rfl c27 rfl) ?_;refine go 1 ?_;refine a0j he rfl (fun g10=>?_);refine go 2 ?_;refine a0p _ he rfl rfl rfl rfl rfl rfl ?_;refine go 6 ?_;refine a0d (a5n _ l[i] S27 d27 ⟨_,_,rfl,hS27,hd27,hm27⟩ (hsl _ (List.getElem_mem hlt))) rfl rfl ?_;refine go 4 ?_;refine a2I (I':=I) (L':=[(4,.pointer (some ⟨g4,0,none⟩)),(1,.slice A l.length c0),(2,.slice B ch.length c1),(3,.int .i64 n),(22,.slice A l.length c0),(23,.int .i64 ((l.length:Nat):Int)),(24,.int .i64 ((i:Nat):Int)),(48,.bool ((decide (chs l[i]=0)||decide (ch[i]<n))||decide (chs l[i]≤ch[i])))]) (H':=[.blk g4 24 [vc]]) ?_ ?_
    ·refine go 4 ?_;refine sxb 33 rfl (fun h33 p33=>?_) (fun h33 p33=>?_)
     ·refine go 17 ?_;refine a0b ?_;exact a0L ⟨rfl,rfl,rfl,rfl,rfl,rfl,rfl,(congrArg (fun b=>some (Value.bool b)) (by simp only[h25,h33,bS])),trivial⟩ rfl rfl
     ·refine go 2 ?_;obtain⟨b36,o36,w36,e36,c36,r36⟩:=RdA.at_ hB (i:=i) hlt2;obtain rfl:=r36;refine a1d (a0R rfl rfl h33 (a0t rfl (a0h he rfl rfl e36 (i) (by omega) hlt2) ?_));refine a1d (a0R rfl rfl h33 (a0t rfl (a0K he rfl (c36 0 _ rfl)) ?_));refine go 4 ?_;refine sxb 41 rfl (fun h41 p41=>?_) (fun h41 p41=>?_)
      ·refine go 9 ?_;refine a0b ?_;exact a0L ⟨rfl,rfl,rfl,rfl,rfl,rfl,rfl,(congrArg (fun b=>some (Value.bool b)) (by simp only[h25,h33,h41,bS])),trivial⟩ rfl rfl
      ·refine go 2 ?_;obtain⟨b44,o44,w44,e44,c44,r44⟩:=RdA.at_ hB (i:=i) hlt2;obtain rfl:=r44;refine a1d (a0R rfl rfl h41 (a0t rfl (a0h he rfl rfl e44 (i) (by omega) hlt2) ?_));refine a1d (a0R rfl rfl h41 (a0t rfl (a0K he rfl (c44 0 _ rfl)) ?_));refine go 5 ?_;refine a0b ?_;exact a0L ⟨rfl,rfl,rfl,rfl,rfl,rfl,rfl,(congrArg (fun b=>some (Value.bool b)) (by simp only[h25,h33,h41,bS])),trivial⟩ rfl rfl
    ·refine cb rfl (fun h48 p48=>?_) (fun h48 p48=>?_)
     ·refine go 11 ?_;refine a0s rfl rfl ?_;exact q_v (congrArg Value.bool (by simp only[a1E,h21,a6G (f:=a8c n) hlt hlt hlt2 (by simp only[a8c,h48];rfl),bS]))
     ·refine go 8 ?_;exact a0M (i+1) ⟨by omega,a5V hn hlt hlt2 (by simp only[a8c,h48];rfl)⟩ (by omega) rfl sb rfl
   ·refine go 11 ?_;refine a0s rfl rfl ?_
    have e:i=l.length:=(by omega)
    subst e;exact q_v (congrArg Value.bool (by simp only[a1E,hn,h21];rfl))
theorem c8r (I:IMap) (A B:Option Addr) (a c b d:Nat) :
    FnI Tryz.prog 242 #[.slice A a c,.slice B b d] I (fun u J=>∃g2 g3,u = .func (.func 300) #[] #[.pointer (some ⟨g2,0,none⟩),.pointer (some ⟨g3,0,none⟩)]∧ICells J g2 0 [.slice A a c]∧ICells J g3 0 [.slice B b d]):=by
 refine enter Tryz.func242 Tryz.call242 rfl Tryz.ntmps242 rfl (fun w0=>?_);refine go 3 ?_;refine a0B _ rfl rfl rfl (fun g2=>?_);refine go 1 ?_;refine a0B _ rfl rfl rfl (fun g3=>?_);refine go 5 ?_;refine a0f ?_;refine a1Q (fun Ig2 jg2 cg2=>?_);refine a1Q (fun Ig3 jg3 cg3=>?_)
 have cg2:=(cg2).le jg3
 refine o_v rfl (a1i rfl rfl) ?_;refine go 4 ?_;refine a0s rfl rfl ?_;exact q_i ⟨_,_,rfl,cg2,cg3⟩
theorem c8i (I:IMap) (v:Value) (l:List Rep) (hv:RdS I v l) (w:Value) (ch:List Int) (hw:RdS I w ch) (hlc:ch.length=l.length) (g2 g3:Nat) (c2:ICells I g2 0 [v]) (c3:ICells I g3 0 [w]) :
    b6M Tryz.prog 300 [.pointer (some ⟨g2,0,none⟩),.pointer (some ⟨g3,0,none⟩)] I (fun _ vs (x:Int)=>vs=[ci x]) (fun pre x=>pre++[x] <+: a1A l ch l.length) (fun pre=>pre=a1A l ch l.length) (fun _=>True):=by
 obtain⟨A,c0,rfl,hA,hc,hm⟩:=hv;obtain⟨B,c1,rfl,hB,hc1,hm1⟩:=hw;intro ly J I1 Hc hI1 hJm hY hJ0
 have hA:=hA.le hI1
 have hB:=hB.le hI1
 have c2:=c2.le hI1
 have c3:=c3.le hI1
 refine enter Tryz.func300 Tryz.call300 rfl Tryz.ntmps300 rfl (fun w0=>?_);refine go 2 ?_;refine o_v rfl (a0K he rfl (c2 0 _ rfl)) ?_;refine go 5 ?_
 refine a2L ((0:Nat)) (I1) (Hc) (fun i I2 Hc=>I2)
  (fun i I2 Hc=>[(0,.func (.yield ly) #[] #[]),(1,.pointer (some ⟨g2,0,none⟩)),(2,.pointer (some ⟨g3,0,none⟩)),(8,.slice A l.length c0),(9,.int .i64 ((l.length:Nat):Int)),(10,.int .i64 ((i:Nat):Int))])
  (fun i I2 Hc=>Hc)
  (fun i I2 Hc=>i≤l.length∧ILe I1 I2∧J true (a1A l ch i) I2 Hc)
  (fun i I2 Hc=>l.length-i) ⟨Nat.zero_le _,ILe.refl _,hJ0⟩ rfl sb rfl ?_
 intro i I2 Hc ⟨hi,hI2,hJ⟩
 have hA:=hA.le hI2
 have hB:=hB.le hI2
 have c3:=c3.le hI2
 refine go 6 ?_;refine cb rfl (fun h11 p11=>?_) (fun h11 p11=>?_)
 ·have hlt:i<l.length:=by omega
  have hlt2:i<ch.length:=by omega
  refine go 7 ?_;obtain⟨b13,o13,w13,e13,c13,r13⟩:=RdA.at_ hA (i:=i) hlt;obtain⟨q13,rfl,S13,d13,rfl,hS13,hd13,hm13⟩:=r13;refine o_v rfl (a0h he rfl rfl e13 (i) (by omega) hlt) ?_;refine o_v rfl (a0G he rfl c13 rfl) ?_;refine go 1 ?_;refine a0j he rfl (fun g5=>?_);refine go 2 ?_;refine a0p _ he rfl rfl rfl rfl rfl rfl ?_;refine go 11 ?_
  refine a2L ((0:Nat)) (I2) (Hc) (fun j I3 Hc3=>I3)
   (fun j I3 Hc3=>[(0,.func (.yield ly) #[] #[]),(1,.pointer (some ⟨g2,0,none⟩)),(2,.pointer (some ⟨g3,0,none⟩)),(8,.slice A l.length c0),(9,.int .i64 ((l.length:Nat):Int)),(10,.int .i64 ((i:Nat):Int)),(4,.int .i64 ((i:Nat):Int)),(5,.pointer (some ⟨g5,0,none⟩)),(16,.slice S13 l[i].options.length d13),(17,.int .i64 ((l[i].options.length:Nat):Int)),(18,.int .i64 ((j:Nat):Int))])
   (fun j I3 Hc3=>.blk g5 64 (l[i].cells (.slice S13 l[i].options.length d13))::Hc3)
   (fun j I3 Hc3=>j≤l[i].options.length∧ILe I2 I3∧J true (a5j l ch i j) I3 Hc3)
   (fun j I3 Hc3=>l[i].options.length-j) ⟨Nat.zero_le _,ILe.refl _,by rw[b4B];exact hJ⟩ rfl sb rfl ?_
  intro j I3 Hc3 ⟨hj,hI3,hJ3⟩
  have hB:=hB.le hI3
  have c3:=c3.le hI3
  have hS13:=hS13.le hI3
  refine go 6 ?_;refine cb rfl (fun h19 p19=>?_) (fun h19 p19=>?_)
  ·have hlj:j<l[i].options.length:=by omega
   refine go 6 ?_;obtain⟨b20,o20,w20,e20,c20,r20⟩:=RdA.at_ hS13 (i:=j) hlj;obtain rfl:=r20;refine o_v rfl (a0h he rfl rfl e20 (j) (by omega) hlj) ?_;refine o_v rfl (a0G he rfl c20 rfl) ?_;refine go 1 ?_;refine a0j he rfl (fun g7=>?_);refine go 1 ?_;refine a0p _ he rfl rfl rfl rfl rfl rfl ?_;refine go 4 ?_;refine o_v rfl (a0K he rfl (c3 0 _ rfl)) ?_;refine go 1 ?_;obtain⟨b24,o24,w24,e24,c24,r24⟩:=RdA.at_ hB (i:=i) hlt2;obtain rfl:=r24;refine o_v rfl (a0h he rfl rfl e24 (i) (by omega) hlt2) ?_;refine o_v rfl (a0K he rfl (c24 0 _ rfl)) ?_;refine go 2 ?_;refine sxb 27 rfl (fun h27 p27=>?_) (fun h27 p27=>?_)
   ·refine go 4 ?_;refine a0R rfl rfl h27 (a8L (l[i].options[j].day) hY (hJm _ _ _ _ _ (ILe.refl _) hJ3) (rfl) (b7y hlt hlt2 p27 hlj) rfl rfl rfl (fun b31 I31 Hc31 j31 hJ31=>?_));refine go 4 ?_;refine cb rfl (fun h33 p33=>?_) (fun h33 p33=>?_)
    ·have hb31:b31=false:=by simpa using h33
     refine go 9 ?_;refine b8g rfl ?_;refine a0b ?_;refine a0b ?_;subst hb31;exact b8h false _ hJ31 trivial
    ·have hb31:b31=true:=by simpa using h33
     refine go 8 ?_;refine a0b ?_;exact a1M (j+1) (I31) (Hc31) ⟨by omega,hI3.trans j31,by rw[a9z hlt hlt2 p27 hlj];exact hb31▸hJ31⟩ (by omega) rfl sb rfl
   ·refine go 8 ?_;refine a0T rfl ?_;refine go 8 ?_;refine a0b ?_;exact a1M (j+1) (I3) (Hc3) ⟨by omega,hI3,by rw[b4A hlt hlt2 p27 j];exact hJ3⟩ (by omega) rfl sb rfl
  ·refine go 11 ?_;refine a0b ?_;exact a1M (i+1) (I3) (Hc3) ⟨by omega,hI2.trans hI3,by rw[←b0I hlt hlt2];exact (show j=l[i].options.length by omega)▸hJ3⟩ (by omega) rfl sb rfl
 ·have hil:i=l.length:=by omega
  refine go 4 ?_;refine a6E rfl ?_;exact b8h true _ hJ (by rw[hil];rfl)
end Go.Proofs.YtdapmfkbpnjkmaaGreat
namespace Go.Proofs.YtdapmfkbpnjkmaaGreat
open Go Go.Sx
set_option linter.all false
set_option maxRecDepth 20000
set_option maxHeartbeats 4000000
instance T.by_359:Has (a2D Tryz.prog 359) ([.int .i64 0,.int .i64 0,.string ⟨#[]⟩,.string ⟨#[]⟩,.string ⟨#[]⟩,.string ⟨#[]⟩,.string ⟨#[]⟩,.string ⟨#[]⟩,.int .i64 0,.int .i64 0,.int .i64 0,.int .i64 0,.int .i64 0,.int .i64 0,.int .i64 0],15,168):=⟨by kernel_rfl⟩
instance T.elt_357:Has (a8r Tryz.prog 357) (359,15):=⟨by kernel_rfl⟩
instance T.fld_359_0:Has (a3Q Tryz.prog 359 0) (0,true,14):=⟨by kernel_rfl⟩
instance T.fld_359_1:Has (a3Q Tryz.prog 359 1) (14,false,1):=⟨by kernel_rfl⟩
instance T.pl_359:Has (plK Tryz.prog 359) [(0,14),(14,1)]:=⟨by kernel_rfl⟩
instance T.ty_359:Has (tyK Tryz.prog 359) (true,15):=⟨by kernel_rfl⟩
instance T.und_357:Has (Tryz.prog.underlying 357) (.slice 359):=⟨by kernel_rfl⟩
instance T.zero_359:Has (a2t Tryz.prog 359) [.int .i64 0,.int .i64 0,.string ⟨#[]⟩,.string ⟨#[]⟩,.string ⟨#[]⟩,.string ⟨#[]⟩,.string ⟨#[]⟩,.string ⟨#[]⟩,.int .i64 0,.int .i64 0,.int .i64 0,.int .i64 0,.int .i64 0,.int .i64 0,.int .i64 0]:=⟨by kernel_rfl⟩
theorem a7X (I:IMap) {rest:Rst 15} {cap:Nat} (l:List Pkd) (N:Nat) (hN:l.length=N) (g a b n:Nat) (f:FuncId) (h:a+n≤b) (hb:b+n≤l.length) (hl:l.length≤1000000) :
    FnM Tryz.prog 358 #[.slice (some ⟨g,0,none⟩) N cap,.int .i64 ((a:Nat):Int),.int .i64 ((b:Nat):Int),.int .i64 ((n:Nat):Int),.func (.func f) #[] #[]] I (.blk g 359 (a1H (l)++rest.l).flatten) (.blk g 359 (a1H (a8S l a b n)++rest.l).flatten):=by
 refine enter Tryz.func358 Tryz.call358 rfl Tryz.ntmps358 rfl (fun w0=>?_);refine go 6 ?_
 refine a0Q (α:=Nat) 0 (fun i=>I)
  (fun i=>[(0,.slice (some ⟨g,0,none⟩) N cap),(1,.int .i64 ((a:Nat):Int)),(2,.int .i64 ((b:Nat):Int)),(3,.int .i64 ((n:Nat):Int)),(10,.int .i64 ((i:Nat):Int))])
  (fun i=>[.blk g 359 (a1H (a8S l a b i)++rest.l).flatten])
  (fun i=>i≤n)
  (fun i=>n-i) (Nat.zero_le _) rfl sb rfl ?_
 intro i hi;refine go 8 ?_;refine cb rfl (fun h13 p13=>?_) (fun h13 p13=>?_)
 ·have hlt:i<n:=by omega
  have hm:=a4a l a b i
  have h1:a+i<(a8S l a b i).length:=by omega
  have h2:b+i<(a8S l a b i).length:=by omega
  refine go 4 ?_;refine a1I T.mixed ?_;refine a0e 0 rfl rfl (by kernel_rfl) rfl (.cons _ .slnil) rfl (a0a rfl) ?_;refine a0e 1 rfl rfl (by kernel_rfl) rfl (.cons _ .slnil) rfl (a0a rfl) ?_;refine a0e 2 rfl rfl (by kernel_rfl) rfl (.cons _ .slnil) rfl (a0a rfl) ?_;refine a0e 3 rfl rfl (by kernel_rfl) rfl (.cons _ .slnil) rfl (a2d rfl rfl ⟨by omega,by omega⟩) ?_;refine a0e 4 rfl rfl (by kernel_rfl) rfl (.cons _ .slnil) rfl (a0a rfl) ?_;refine a0e 5 rfl rfl (by kernel_rfl) rfl (.cons _ .slnil) rfl (a0a rfl) ?_;refine a0e 6 rfl rfl (by kernel_rfl) rfl (.cons _ .slnil) rfl (a0a rfl) ?_;refine a0e 7 rfl rfl (by kernel_rfl) rfl (.cons _ .slnil) rfl (a2d rfl rfl ⟨by omega,by omega⟩) ?_;refine a0e 8 rfl rfl (by kernel_rfl) rfl (.cons _ .slnil) rfl (a0a rfl) ?_;refine a0e 9 rfl rfl (by kernel_rfl) rfl (.cons _ .slnil) rfl (a0a rfl) ?_;refine a0e 10 rfl rfl (by kernel_rfl) rfl (.cons _ .slnil) rfl (a0a rfl) ?_;refine a0e 11 rfl rfl (by kernel_rfl) rfl (.cons _ .slnil) rfl (a2d rfl rfl ⟨by omega,by omega⟩) ?_;refine a0e 12 rfl rfl (by kernel_rfl) rfl (.cons _ .slnil) rfl (a0h he rfl rfl rfl (b+i) (by omega) (by omega)) ?_;refine a0e 14 rfl rfl (by kernel_rfl) rfl (.cons _ .slnil) rfl (a0a rfl) ?_;refine a0e 15 rfl rfl (by kernel_rfl) rfl (.cons _ .slnil) rfl (a0a rfl) ?_;refine a0e 16 rfl rfl (by kernel_rfl) rfl (.cons _ .slnil) rfl (a0a rfl) ?_;refine a0e 17 rfl rfl (by kernel_rfl) rfl (.cons _ .slnil) rfl (a2d rfl rfl ⟨by omega,by omega⟩) ?_;refine a0e 18 rfl rfl (by kernel_rfl) rfl (.cons _ .slnil) rfl (a0h he rfl rfl rfl (a+i) (by omega) (by omega)) ?_;refine a3O 13 19 (by kernel_rfl) rfl rfl ?_ ?_
  ·refine a0t rfl (a1U m0 ((a0z _).append rest.uk) he rfl (b+i) (by omega) (a1a h2)) ?_;refine a0D (fun _ m=>m.keeps (.cons _ .slnil)) ?_;refine a0m 19 (by kernel_rfl) rfl ?_;refine a0t rfl (a1U m0 ((a0z _).append rest.uk) he rfl (a+i) (by omega) (a1a h1)) ?_;refine a0D (fun _ m=>m.keeps (.cons _ .slnil)) ?_;refine a0e 20 rfl rfl (by kernel_rfl) rfl (.cons _ .slnil) rfl (a0h he rfl rfl rfl (a+i) (by omega) (by omega)) ?_;refine a0m 21 (by kernel_rfl) rfl ?_;refine a1Y _ (a+i) (by first|exact (a0z _).append rest.uk|exact ((a0z _).append rest.uk).set rfl _) he rfl rfl rfl rfl rfl (by omega) (by simp[a0J];omega) ?_;refine a0D (fun _ m=>m.keeps (.cons _ .slnil)) ?_;refine a0e 22 rfl rfl (by kernel_rfl) rfl (.cons _ .slnil) rfl (a0h he rfl rfl rfl (b+i) (by omega) (by omega)) ?_;refine a0m 23 (by kernel_rfl) rfl ?_;refine a1Y _ (b+i) (by first|exact (a0z _).append rest.uk|exact ((a0z _).append rest.uk).set rfl _) he rfl rfl rfl rfl rfl (by omega) (by simp[a0J];omega) ?_;refine a0D (fun _ m=>m.keeps (.cons _ .slnil)) ?_;refine a0n (by kernel_rfl) ?_;refine go 8 ?_;exact a0M (i+1) (by omega) (by omega) rfl sb (by rw[a8S];first|rw[←a4d h1 h2] | rw[←a3v h1 h2 (by omega)])
  ·refine a0t rfl (a1U m0 ((a0z _).append rest.uk) he rfl (a+i) (by omega) (a1a h1)) ?_;refine a0D (fun _ m=>m.keeps (.cons _ .slnil)) ?_;refine a0m 13 (by kernel_rfl) rfl ?_;refine a0t rfl (a1U m0 ((a0z _).append rest.uk) he rfl (b+i) (by omega) (a1a h2)) ?_;refine a0D (fun _ m=>m.keeps (.cons _ .slnil)) ?_;refine a0e 20 rfl rfl (by kernel_rfl) rfl (.cons _ .slnil) rfl (a0h he rfl rfl rfl (a+i) (by omega) (by omega)) ?_;refine a0m 21 (by kernel_rfl) rfl ?_;refine a1Y _ (a+i) (by first|exact (a0z _).append rest.uk|exact ((a0z _).append rest.uk).set rfl _) he rfl rfl rfl rfl rfl (by omega) (by simp[a0J];omega) ?_;refine a0D (fun _ m=>m.keeps (.cons _ .slnil)) ?_;refine a0e 22 rfl rfl (by kernel_rfl) rfl (.cons _ .slnil) rfl (a0h he rfl rfl rfl (b+i) (by omega) (by omega)) ?_;refine a0m 23 (by kernel_rfl) rfl ?_;refine a1Y _ (b+i) (by first|exact (a0z _).append rest.uk|exact ((a0z _).append rest.uk).set rfl _) he rfl rfl rfl rfl rfl (by omega) (by simp[a0J];omega) ?_;refine a0D (fun _ m=>m.keeps (.cons _ .slnil)) ?_;refine a0n (by kernel_rfl) ?_;refine go 8 ?_;exact a0M (i+1) (by omega) (by omega) rfl sb (by rw[a8S];first|rw[←a4d h1 h2] | rw[←a3v h1 h2 (by omega)])
 ·refine go 4 ?_;refine a6E rfl ?_;obtain rfl:i=n:=by omega
  exact q_m
theorem b5C (I:IMap) {rest:Rst 15} {cap:Nat} (l:List Pkd) (N:Nat) (hN:l.length=N) (g a b:Nat) (f:FuncId) (hp:∀x y:Pkd,FnV Tryz.prog f #[.agg (Day.ch x).toArray,.agg (Day.ch y).toArray] I (.int .i64 ((Day.day x-Day.day y)))) (hab:a≤b) (hb:b≤l.length) (hl:l.length≤1000000) :
    FnX Tryz.prog 347 #[.slice (some ⟨g,0,none⟩) N cap,.int .i64 ((a:Nat):Int),.int .i64 ((b:Nat):Int),.func (.func f) #[] #[]] I [.blk g 359 (a1H (l)++rest.l).flatten] (fun u r=>u = .tuple #[]∧∃m,r = .blk g 359 (a1H (m)++rest.l).flatten∧Seg l m a b):=by
 refine enter Tryz.func347 Tryz.call347 rfl Tryz.ntmps347 rfl (fun w0=>?_);refine go 3 ?_;refine o_v rfl (OV.cast (u:=.int .i64 ((a+1:Nat):Int)) (a2d rfl rfl ⟨by omega,by omega⟩) (congrArg (Value.int .i64) (by omega))) ?_;refine go 4 ?_
 refine a1z (a+1) (l) (fun i m=>I)
  (fun i m=>[(0,.slice (some ⟨g,0,none⟩) N cap),(1,.int .i64 ((a:Nat):Int)),(2,.int .i64 ((b:Nat):Int)),(3,.func (.func f) #[] #[]),(8,.int .i64 ((i:Nat):Int))])
  (fun i m=>[.blk g 359 (a1H (m)++rest.l).flatten])
  (fun i m=>a+1≤i∧(i≤b∨(m=l∧i=a+1))∧Seg l m a i)
  (fun i m=>b-i) ⟨Nat.le_refl _,.inr ⟨rfl,rfl⟩,Seg.one l a⟩ rfl sb rfl ?_
 intro i m ⟨h1,h2,hs⟩;refine go 8 ?_;refine cb rfl (fun h14 p14=>?_) (fun h14 p14=>?_)
 ·have hlt:i<b:=by omega
  refine go 11 ?_
  refine a1z (i) (m) (fun j k=>I)
   (fun j k=>[(0,.slice (some ⟨g,0,none⟩) N cap),(1,.int .i64 ((a:Nat):Int)),(2,.int .i64 ((b:Nat):Int)),(3,.func (.func f) #[] #[]),(8,.int .i64 ((i:Nat):Int)),(9,.int .i64 ((j:Nat):Int))])
   (fun j k=>[.blk g 359 (a1H (k)++rest.l).flatten])
   (fun j k=>a≤j∧j≤i∧Ins l k a i j)
   (fun j k=>j) ⟨by omega,Nat.le_refl _,Ins.start hs⟩ rfl sb rfl ?_
  intro j k ⟨hj1,hj2,hk⟩
  have hkl:=hk.len
  refine go 2 ?_;refine a0F T.mixed ?_;refine a0e 0 rfl rfl (by kernel_rfl) rfl (.refl _) rfl (a0a rfl) ?_;refine a0e 1 rfl rfl (by kernel_rfl) rfl (.refl _) rfl (a0a rfl) ?_;refine a0e 2 rfl rfl (by kernel_rfl) rfl (.refl _) rfl (a9R rfl rfl) ?_;refine a0e 3 rfl rfl (by kernel_rfl) rfl (.refl _) rfl (a0a rfl) ?_;refine sxb 21 rfl (fun h21 p21=>?_) (fun h21 p21=>?_)
  ·have hjk:j<k.length:=by omega
   have hjk1:j-1<k.length:=by omega
   refine d_t 4 rfl rfl (by kernel_rfl) rfl (fun _ m=>m.keeps (.refl _)) (a0k rfl rfl h21 (a0a rfl)) ?_;refine d_t 5 rfl rfl (by kernel_rfl) rfl (fun _ m=>m.keeps (.refl _)) (a0k rfl rfl h21 (a0a rfl)) ?_;refine d_t 6 rfl rfl (by kernel_rfl) rfl (fun _ m=>m.keeps (.refl _)) (a0k rfl rfl h21 (a0a rfl)) ?_;refine d_t 7 rfl rfl (by kernel_rfl) rfl (fun _ m=>m.keeps (.refl _)) (a0k rfl rfl h21 (a0h he rfl rfl rfl (j) (by omega) (by omega))) ?_;refine d_t 8 rfl rfl (by kernel_rfl) rfl (fun _ m=>m.keeps (.refl _)) (a0k rfl rfl h21 (a1U m0 ((a0z _).append rest.uk) he rfl (j) (by omega) (a1a hjk))) ?_;refine d_t 9 rfl rfl (by kernel_rfl) rfl (fun _ m=>m.keeps (.refl _)) (a0k rfl rfl h21 (a0a rfl)) ?_;refine d_t 10 rfl rfl (by kernel_rfl) rfl (fun _ m=>m.keeps (.refl _)) (a0k rfl rfl h21 (a0a rfl)) ?_;refine d_t 11 rfl rfl (by kernel_rfl) rfl (fun _ m=>m.keeps (.refl _)) (a0k rfl rfl h21 (a1m rfl rfl ⟨by omega,by omega⟩)) ?_;refine d_t 12 rfl rfl (by kernel_rfl) rfl (fun _ m=>m.keeps (.refl _)) (a0k rfl rfl h21 (a0h he rfl rfl rfl (j-1) (by omega) (by omega))) ?_;refine d_t 13 rfl rfl (by kernel_rfl) rfl (fun _ m=>m.keeps (.refl _)) (a0k rfl rfl h21 (a1U m0 ((a0z _).append rest.uk) he rfl (j-1) (by omega) (a1a hjk1))) ?_;refine a0m 14 (by kernel_rfl) rfl ?_;refine a0R rfl rfl h21 (a0d (hp _ _) rfl rfl ?_);refine a0D (fun _ m=>m.keeps (.refl _)) ?_;refine d_t 15 rfl rfl (by kernel_rfl) rfl (fun _ m=>m.keeps (.refl _)) (a0k rfl rfl h21 (a5o rfl rfl)) ?_;refine a0e 16 rfl rfl (by kernel_rfl) rfl (.refl _) rfl (a3g h21 rfl rfl) ?_;refine a0n (by kernel_rfl) ?_;refine go 1 ?_;refine cb rfl (fun h34 p34=>?_) (fun h34 p34=>?_)
   ·refine go 4 ?_;refine a1I T.mixed ?_;refine a0e 0 rfl rfl (by kernel_rfl) rfl (.cons _ .slnil) rfl (a0a rfl) ?_;refine a0e 1 rfl rfl (by kernel_rfl) rfl (.cons _ .slnil) rfl (a0a rfl) ?_;refine a0e 2 rfl rfl (by kernel_rfl) rfl (.cons _ .slnil) rfl (a0a rfl) ?_;refine a0e 3 rfl rfl (by kernel_rfl) rfl (.cons _ .slnil) rfl (a0a rfl) ?_;refine a0e 4 rfl rfl (by kernel_rfl) rfl (.cons _ .slnil) rfl (a1m rfl rfl ⟨by omega,by omega⟩) ?_;refine a0e 5 rfl rfl (by kernel_rfl) rfl (.cons _ .slnil) rfl (a0a rfl) ?_;refine a0e 6 rfl rfl (by kernel_rfl) rfl (.cons _ .slnil) rfl (a0a rfl) ?_;refine a0e 7 rfl rfl (by kernel_rfl) rfl (.cons _ .slnil) rfl (a1m rfl rfl ⟨by omega,by omega⟩) ?_;refine a0e 8 rfl rfl (by kernel_rfl) rfl (.cons _ .slnil) rfl (a0h he rfl rfl rfl (j-1) (by omega) (by omega)) ?_;refine a0e 10 rfl rfl (by kernel_rfl) rfl (.cons _ .slnil) rfl (a0a rfl) ?_;refine a0e 11 rfl rfl (by kernel_rfl) rfl (.cons _ .slnil) rfl (a0a rfl) ?_;refine a0e 12 rfl rfl (by kernel_rfl) rfl (.cons _ .slnil) rfl (a0h he rfl rfl rfl (j) (by omega) (by omega)) ?_;refine a3O 9 13 (by kernel_rfl) rfl rfl ?_ ?_
    ·refine a0t rfl (a1U m0 ((a0z _).append rest.uk) he rfl (j-1) (by omega) (a1a hjk1)) ?_;refine a0D (fun _ m=>m.keeps (.cons _ .slnil)) ?_;refine a0m 13 (by kernel_rfl) rfl ?_;refine a0t rfl (a1U m0 ((a0z _).append rest.uk) he rfl (j) (by omega) (a1a hjk)) ?_;refine a0D (fun _ m=>m.keeps (.cons _ .slnil)) ?_;refine a0e 14 rfl rfl (by kernel_rfl) rfl (.cons _ .slnil) rfl (a0h he rfl rfl rfl (j) (by omega) (by omega)) ?_;refine a0m 15 (by kernel_rfl) rfl ?_;refine a1Y _ (j) (by first|exact (a0z _).append rest.uk|exact ((a0z _).append rest.uk).set rfl _) he rfl rfl rfl rfl rfl (by omega) (by simp[a0J];omega) ?_;refine a0D (fun _ m=>m.keeps (.cons _ .slnil)) ?_;refine a0e 16 rfl rfl (by kernel_rfl) rfl (.cons _ .slnil) rfl (a0h he rfl rfl rfl (j-1) (by omega) (by omega)) ?_;refine a0m 17 (by kernel_rfl) rfl ?_;refine a1Y _ (j-1) (by first|exact (a0z _).append rest.uk|exact ((a0z _).append rest.uk).set rfl _) he rfl rfl rfl rfl rfl (by omega) (by simp[a0J];omega) ?_;refine a0D (fun _ m=>m.keeps (.cons _ .slnil)) ?_;refine a0n (by kernel_rfl) ?_;refine go 4 ?_;refine o_v rfl (OV.cast (u:=.int .i64 ((j-1:Nat):Int)) (a1m rfl rfl ⟨by omega,by omega⟩) (congrArg (Value.int .i64) (by omega))) ?_;refine go 3 ?_;exact a0X (j-1) (swp k j (j-1)) ⟨by omega,by omega,hk.step (by omega) (by omega) (by omega) (by have:=p34;simp only[a7o]at this;rw[a1x (by omega),a1x (by omega)];exact this)⟩ (by omega) rfl sb (by first|rw[←a4d (show j<k.length by omega) (show j-1<k.length by omega)] | rw[←a3v (show j<k.length by omega) (show j-1<k.length by omega) (by omega)])
    ·refine a0t rfl (a1U m0 ((a0z _).append rest.uk) he rfl (j) (by omega) (a1a hjk)) ?_;refine a0D (fun _ m=>m.keeps (.cons _ .slnil)) ?_;refine a0m 9 (by kernel_rfl) rfl ?_;refine a0t rfl (a1U m0 ((a0z _).append rest.uk) he rfl (j-1) (by omega) (a1a hjk1)) ?_;refine a0D (fun _ m=>m.keeps (.cons _ .slnil)) ?_;refine a0e 14 rfl rfl (by kernel_rfl) rfl (.cons _ .slnil) rfl (a0h he rfl rfl rfl (j) (by omega) (by omega)) ?_;refine a0m 15 (by kernel_rfl) rfl ?_;refine a1Y _ (j) (by first|exact (a0z _).append rest.uk|exact ((a0z _).append rest.uk).set rfl _) he rfl rfl rfl rfl rfl (by omega) (by simp[a0J];omega) ?_;refine a0D (fun _ m=>m.keeps (.cons _ .slnil)) ?_;refine a0e 16 rfl rfl (by kernel_rfl) rfl (.cons _ .slnil) rfl (a0h he rfl rfl rfl (j-1) (by omega) (by omega)) ?_;refine a0m 17 (by kernel_rfl) rfl ?_;refine a1Y _ (j-1) (by first|exact (a0z _).append rest.uk|exact ((a0z _).append rest.uk).set rfl _) he rfl rfl rfl rfl rfl (by omega) (by simp[a0J];omega) ?_;refine a0D (fun _ m=>m.keeps (.cons _ .slnil)) ?_;refine a0n (by kernel_rfl) ?_;refine go 4 ?_;refine o_v rfl (OV.cast (u:=.int .i64 ((j-1:Nat):Int)) (a1m rfl rfl ⟨by omega,by omega⟩) (congrArg (Value.int .i64) (by omega))) ?_;refine go 3 ?_;exact a0X (j-1) (swp k j (j-1)) ⟨by omega,by omega,hk.step (by omega) (by omega) (by omega) (by have:=p34;simp only[a7o]at this;rw[a1x (by omega),a1x (by omega)];exact this)⟩ (by omega) rfl sb (by first|rw[←a4d (show j<k.length by omega) (show j-1<k.length by omega)] | rw[←a3v (show j<k.length by omega) (show j-1<k.length by omega) (by omega)])
   ·refine go 12 ?_;exact a0X (i+1) (k) ⟨by omega,.inl (by omega),hk.done (by omega) (by omega) (.inr (by have:=p34;simp only[a7o]at this;rw[a1x (by omega),a1x (by omega)];omega))⟩ (by omega) rfl sb rfl
  ·refine d_t 4 rfl rfl (by kernel_rfl) rfl (fun _ m=>m.keeps (.refl _)) (a0A rfl rfl h21) ?_;refine d_t 5 rfl rfl (by kernel_rfl) rfl (fun _ m=>m.keeps (.refl _)) (a0A rfl rfl h21) ?_;refine d_t 6 rfl rfl (by kernel_rfl) rfl (fun _ m=>m.keeps (.refl _)) (a0A rfl rfl h21) ?_;refine d_t 7 rfl rfl (by kernel_rfl) rfl (fun _ m=>m.keeps (.refl _)) (a0A rfl rfl h21) ?_;refine d_t 8 rfl rfl (by kernel_rfl) rfl (fun _ m=>m.keeps (.refl _)) (a0A rfl rfl h21) ?_;refine d_t 9 rfl rfl (by kernel_rfl) rfl (fun _ m=>m.keeps (.refl _)) (a0A rfl rfl h21) ?_;refine d_t 10 rfl rfl (by kernel_rfl) rfl (fun _ m=>m.keeps (.refl _)) (a0A rfl rfl h21) ?_;refine d_t 11 rfl rfl (by kernel_rfl) rfl (fun _ m=>m.keeps (.refl _)) (a0A rfl rfl h21) ?_;refine d_t 12 rfl rfl (by kernel_rfl) rfl (fun _ m=>m.keeps (.refl _)) (a0A rfl rfl h21) ?_;refine d_t 13 rfl rfl (by kernel_rfl) rfl (fun _ m=>m.keeps (.refl _)) (a0A rfl rfl h21) ?_;refine d_t 14 rfl rfl (by kernel_rfl) rfl (fun _ m=>m.keeps (.refl _)) (a0A rfl rfl h21) ?_;refine d_t 15 rfl rfl (by kernel_rfl) rfl (fun _ m=>m.keeps (.refl _)) (a0A rfl rfl h21) ?_;refine a0e 16 rfl rfl (by kernel_rfl) rfl (.refl _) rfl (a3K h21 rfl) ?_;refine a0n (by kernel_rfl) ?_;refine go 1 ?_;refine a0T rfl ?_;refine go 12 ?_;exact a0X (i+1) (k) ⟨by omega,.inl (by omega),hk.done (by omega) (by omega) (.inl (by omega))⟩ (by omega) rfl sb rfl
 ·refine go 4 ?_;refine a6E rfl ?_;exact q_x (by refine⟨rfl,m,rfl,?_⟩;rcases h2 with h2|⟨rfl,h2⟩;exact (show i=b by omega)▸hs;exact Seg.none (by omega))
theorem c6W (I:IMap) {rest:Rst 15} {cap:Nat} (l:List Pkd) (N:Nat) (hN:l.length=N) (g a m b:Nat) (f:FuncId) (ham:a<m) (hmb:m<b) (hb:b≤l.length) (hl:l.length≤1000000) :
    FnX Tryz.prog 355 #[.slice (some ⟨g,0,none⟩) N cap,.int .i64 ((a:Nat):Int),.int .i64 ((m:Nat):Int),.int .i64 ((b:Nat):Int),.func (.func f) #[] #[]] I [.blk g 359 (a1H (l)++rest.l).flatten] (fun u r=>u = .tuple #[]∧∃k,r = .blk g 359 (a1H (k)++rest.l).flatten∧k.length=l.length∧∀q,k[q]? = a7T (l[·]?) m (m-a) (b-m) q):=by
 refine enter Tryz.func355 Tryz.call355 rfl Tryz.ntmps355 rfl (fun w0=>?_);refine go 4 ?_;refine o_v rfl (OV.cast (u:=.int .i64 ((m-a:Nat):Int)) (a1m rfl rfl ⟨by omega,by omega⟩) (congrArg (Value.int .i64) (by omega))) ?_;refine go 7 ?_;refine o_v rfl (OV.cast (u:=.int .i64 ((b-m:Nat):Int)) (a1m rfl rfl ⟨by omega,by omega⟩) (congrArg (Value.int .i64) (by omega))) ?_;refine go 5 ?_
 refine a2L (m-a) (b-m) (l) (fun i j k=>I)
  (fun i j k=>[(0,.slice (some ⟨g,0,none⟩) N cap),(1,.int .i64 ((a:Nat):Int)),(2,.int .i64 ((m:Nat):Int)),(3,.int .i64 ((b:Nat):Int)),(4,.func (.func f) #[] #[]),(10,.int .i64 ((i:Nat):Int)),(11,.int .i64 ((j:Nat):Int))])
  (fun i j k=>[.blk g 359 (a1H (k)++rest.l).flatten])
  (fun i j k=>1≤i∧1≤j∧i≤m∧m+j≤l.length∧k.length=l.length∧∀q,a7T (k[·]?) m i j q=a7T (l[·]?) m (m-a) (b-m) q)
  (fun i j k=>i+j) ⟨by omega,by omega,by omega,by omega,rfl,fun q=>rfl⟩ rfl sb rfl ?_
 intro i j k ⟨hi1,hj1,him,hmj,hkl,hk⟩;refine go 8 ?_;refine cb rfl (fun h20 p20=>?_) (fun h20 p20=>?_)
 ·refine go 10 ?_;refine cb rfl (fun h23 p23=>?_) (fun h23 p23=>?_)
  ·refine go 5 ?_;refine o_v rfl (OV.cast (u:=.int .i64 ((m-i:Nat):Int)) (a1m rfl rfl ⟨by omega,by omega⟩) (congrArg (Value.int .i64) (by omega))) ?_;refine go 4 ?_;refine a7M (a7X _ k N (by omega) g (m-i) m j f (by omega) (by omega) (by omega)) rfl rfl ?_;refine go 5 ?_;refine o_v rfl (OV.cast (u:=.int .i64 ((i-j:Nat):Int)) (a1m rfl rfl ⟨by omega,by omega⟩) (congrArg (Value.int .i64) (by omega))) ?_;refine go 4 ?_;exact a1M (i-j) (j) (a8S k (m-i) m j) ⟨by omega,by omega,by omega,by omega,(a4a _ _ _ _).trans hkl,fun q=>(c4T (by omega) (by omega) (a5A _ (by omega) (by omega)) q).trans (hk q)⟩ (by omega) rfl sb rfl
  ·refine go 5 ?_;refine o_v rfl (OV.cast (u:=.int .i64 ((m-i:Nat):Int)) (a1m rfl rfl ⟨by omega,by omega⟩) (congrArg (Value.int .i64) (by omega))) ?_;refine go 4 ?_;refine o_v rfl (OV.cast (u:=.int .i64 ((m+j-i:Nat):Int)) (a1m rfl rfl ⟨by omega,by omega⟩) (congrArg (Value.int .i64) (by omega))) ?_;refine go 3 ?_;refine a7M (a7X _ k N (by omega) g (m-i) (m+j-i) i f (by omega) (by omega) (by omega)) rfl rfl ?_;refine go 5 ?_;refine o_v rfl (OV.cast (u:=.int .i64 ((j-i:Nat):Int)) (a1m rfl rfl ⟨by omega,by omega⟩) (congrArg (Value.int .i64) (by omega))) ?_;refine go 4 ?_;exact a1M (i) (j-i) (a8S k (m-i) (m+j-i) i) ⟨by omega,by omega,by omega,by omega,(a4a _ _ _ _).trans hkl,fun q=>(c4U (by omega) (by omega) (a5A _ (by omega) (by omega)) q).trans (hk q)⟩ (by omega) rfl sb rfl
 ·obtain rfl:i=j:=by have:=p20;omega
  refine go 9 ?_;refine o_v rfl (OV.cast (u:=.int .i64 ((m-i:Nat):Int)) (a1m rfl rfl ⟨by omega,by omega⟩) (congrArg (Value.int .i64) (by omega))) ?_;refine go 4 ?_;refine a7M (a7X _ k N (by omega) g (m-i) m i f (by omega) (by omega) (by omega)) rfl rfl ?_;refine go 1 ?_;refine a6E rfl ?_;exact q_x ⟨rfl,a8S k (m-i) m i,rfl,(a4a _ _ _ _).trans hkl,fun q=>(c4S him (a5A _ (by omega) (by omega)) q).trans (hk q)⟩
theorem b7Y (I:IMap) {rest:Rst 15} {cap:Nat} (N g:Nat) (f:FuncId) (hp:∀x y:Pkd,FnV Tryz.prog f #[.agg (Day.ch x).toArray,.agg (Day.ch y).toArray] I (.int .i64 ((Day.day x-Day.day y)))) (hN0:N≤1000000) (W:Nat) (ih:∀(l:List Pkd) (a m b:Nat),l.length=N→b-a<W→a<m→m<b→b≤l.length→SrtD l a m→SrtD l m b→FnX Tryz.prog 348 #[.slice (some ⟨g,0,none⟩) N cap,.int .i64 ((a:Nat):Int),.int .i64 ((m:Nat):Int),.int .i64 ((b:Nat):Int),.func (.func f) #[] #[]] I [.blk g 359 (a1H (l)++rest.l).flatten] (fun u r=>u = .tuple #[]∧∃m,r = .blk g 359 (a1H (m)++rest.l).flatten∧Seg l m a b)) (l:List Pkd) (a m b:Nat) (hN:l.length=N) (hW:b-a≤W) (ham:a<m) (hmb:m<b) (hb:b≤l.length) (m1:SrtD l a m) (m2:SrtD l m b) :
    FnX Tryz.prog 348 #[.slice (some ⟨g,0,none⟩) N cap,.int .i64 ((a:Nat):Int),.int .i64 ((m:Nat):Int),.int .i64 ((b:Nat):Int),.func (.func f) #[] #[]] I [.blk g 359 (a1H (l)++rest.l).flatten] (fun u r=>u = .tuple #[]∧∃m,r = .blk g 359 (a1H (m)++rest.l).flatten∧Seg l m a b):=by
 refine enter Tryz.func348 Tryz.call348 rfl Tryz.ntmps348 rfl (fun w0=>?_);refine go 5 ?_;refine o_v rfl (OV.cast (u:=.int .i64 ((m-a:Nat):Int)) (a1m rfl rfl ⟨by omega,by omega⟩) (congrArg (Value.int .i64) (by omega))) ?_;refine go 3 ?_;refine cb rfl (fun h28 p28=>?_) (fun h28 p28=>?_)
 ·obtain rfl:m=a+1:=by omega
  refine go 14 ?_
  refine a1z (a+1) (b) (fun i j=>I)
   (fun i j=>[(0,.slice (some ⟨g,0,none⟩) N cap),(1,.int .i64 ((a:Nat):Int)),(2,.int .i64 ((a+1:Nat):Int)),(3,.int .i64 ((b:Nat):Int)),(4,.func (.func f) #[] #[]),(10,.int .i64 ((i:Nat):Int)),(11,.int .i64 ((j:Nat):Int))])
   (fun i j=>[.blk g 359 (a1H (l)++rest.l).flatten])
   (fun i j=>a+1≤i∧i≤j∧j≤b∧(∀q,a+1≤q→q<i→a0I l q<a0I l a)∧(∀q,j≤q→q<b→a0I l a≤a0I l q))
   (fun i j=>j-i) ⟨by omega,by omega,by omega,fun q _ _=>by omega,fun q _ _=>by omega⟩ rfl sb rfl ?_
  intro i j ⟨hi1,hij,hjb,hlo,hhi⟩;refine go 8 ?_;refine cb rfl (fun h33 p33=>?_) (fun h33 p33=>?_)
  ·have hh:(i+j) / 2<l.length:=by omega
   have ha0:a<l.length:=by omega
   refine go 8 ?_;refine o_v rfl (a2B he he rfl (m:=(i:Int)+(j:Int)) (a3p _ (by omega) (by omega))) ?_;refine o_v rfl (a6p rfl (by decide)) ?_;refine o_v rfl (a2B he he rfl (m:=(((i+j) / 2:Nat):Int)) (by rw[IntKind.wrap_i64];omega)) ?_;refine go 4 ?_;refine a0F T.mixed ?_;refine a0e 0 rfl rfl (by kernel_rfl) rfl (.refl _) rfl (a0a rfl) ?_;refine a0e 1 rfl rfl (by kernel_rfl) rfl (.refl _) rfl (a0a rfl) ?_;refine a0e 2 rfl rfl (by kernel_rfl) rfl (.refl _) rfl (a0a rfl) ?_;refine a0e 3 rfl rfl (by kernel_rfl) rfl (.refl _) rfl (a0h he rfl rfl rfl ((i+j) / 2) (by omega) (by omega)) ?_;refine a0e 4 rfl rfl (by kernel_rfl) rfl (.refl _) rfl (a1U m0 ((a0z _).append rest.uk) he rfl ((i+j) / 2) (by omega) (a1a hh)) ?_;refine a0e 5 rfl rfl (by kernel_rfl) rfl (.refl _) rfl (a0a rfl) ?_;refine a0e 6 rfl rfl (by kernel_rfl) rfl (.refl _) rfl (a0a rfl) ?_;refine a0e 7 rfl rfl (by kernel_rfl) rfl (.refl _) rfl (a0h he rfl rfl rfl (a) (by omega) (by omega)) ?_;refine a0e 8 rfl rfl (by kernel_rfl) rfl (.refl _) rfl (a1U m0 ((a0z _).append rest.uk) he rfl (a) (by omega) (a1a ha0)) ?_;refine a0m 9 (by kernel_rfl) rfl ?_;refine a0d (hp _ _) rfl rfl ?_;refine a0D (fun _ m=>m.keeps (.refl _)) ?_;refine a0e 10 rfl rfl (by kernel_rfl) rfl (.refl _) rfl (a5o rfl rfl) ?_;refine a0n (by kernel_rfl) ?_;refine go 1 ?_;refine cb rfl (fun h50 p50=>?_) (fun h50 p50=>?_)
   ·refine go 7 ?_;exact a0X ((i+j) / 2+1) (j) ⟨by omega,by omega,by omega,fun q q1 q2=>by have:=m2.le (p:=q) (q:=(i+j) / 2) q1 (by omega) (by omega);have:=b4f p50;omega,hhi⟩ (by omega) rfl sb rfl
   ·refine go 6 ?_;exact a0X (i) ((i+j) / 2) ⟨by omega,by omega,by omega,hlo,fun q q1 q2=>by have:=m2.le (p:=(i+j) / 2) (q:=q) (by omega) q1 q2;have:=b4e p50;omega⟩ (by omega) rfl sb rfl
  ·obtain rfl:i=j:=by omega
   refine go 13 ?_
   refine a0Q (α:=Nat) 0 (fun t=>I)
    (fun t=>[(0,.slice (some ⟨g,0,none⟩) N cap),(1,.int .i64 ((a:Nat):Int)),(2,.int .i64 ((a+1:Nat):Int)),(3,.int .i64 ((b:Nat):Int)),(4,.func (.func f) #[] #[]),(10,.int .i64 ((i:Nat):Int)),(13,.int .i64 ((a+t:Nat):Int))])
    (fun t=>[.blk g 359 (a1H (bub l a t)++rest.l).flatten])
    (fun t=>a+t+1≤i)
    (fun t=>i-t) (by omega) rfl sb rfl ?_
   intro t ht;refine go 5 ?_;refine o_v rfl (OV.cast (u:=.int .i64 ((i-1:Nat):Int)) (a1m rfl rfl ⟨by omega,by omega⟩) (congrArg (Value.int .i64) (by omega))) ?_;refine go 3 ?_;refine cb rfl (fun h58 p58=>?_) (fun h58 p58=>?_)
   ·have hbl:=a9a l a t
    have hk1:a+t<(bub l a t).length:=by omega
    have hk2:a+t+1<(bub l a t).length:=by omega
    refine go 4 ?_;refine a1I T.mixed ?_;refine a0e 0 rfl rfl (by kernel_rfl) rfl (.cons _ .slnil) rfl (a0a rfl) ?_;refine a0e 1 rfl rfl (by kernel_rfl) rfl (.cons _ .slnil) rfl (a0a rfl) ?_;refine a0e 2 rfl rfl (by kernel_rfl) rfl (.cons _ .slnil) rfl (a0a rfl) ?_;refine a0e 3 rfl rfl (by kernel_rfl) rfl (.cons _ .slnil) rfl (a0a rfl) ?_;refine a0e 4 rfl rfl (by kernel_rfl) rfl (.cons _ .slnil) rfl (OV.cast (u:=.int .i64 ((a+t+1:Nat):Int)) (a2d rfl rfl ⟨by omega,by omega⟩) (congrArg (Value.int .i64) (by omega))) ?_;refine a0e 5 rfl rfl (by kernel_rfl) rfl (.cons _ .slnil) rfl (a0a rfl) ?_;refine a0e 6 rfl rfl (by kernel_rfl) rfl (.cons _ .slnil) rfl (a0a rfl) ?_;refine a0e 7 rfl rfl (by kernel_rfl) rfl (.cons _ .slnil) rfl (OV.cast (u:=.int .i64 ((a+t+1:Nat):Int)) (a2d rfl rfl ⟨by omega,by omega⟩) (congrArg (Value.int .i64) (by omega))) ?_;refine a0e 8 rfl rfl (by kernel_rfl) rfl (.cons _ .slnil) rfl (a0h he rfl rfl rfl (a+t+1) (by omega) (by omega)) ?_;refine a0e 10 rfl rfl (by kernel_rfl) rfl (.cons _ .slnil) rfl (a0a rfl) ?_;refine a0e 11 rfl rfl (by kernel_rfl) rfl (.cons _ .slnil) rfl (a0a rfl) ?_;refine a0e 12 rfl rfl (by kernel_rfl) rfl (.cons _ .slnil) rfl (a0h he rfl rfl rfl (a+t) (by omega) (by omega)) ?_;refine a3O 9 13 (by kernel_rfl) rfl rfl ?_ ?_
    ·refine a0t rfl (a1U m0 ((a0z _).append rest.uk) he rfl (a+t+1) (by omega) (a1a hk2)) ?_;refine a0D (fun _ m=>m.keeps (.cons _ .slnil)) ?_;refine a0m 13 (by kernel_rfl) rfl ?_;refine a0t rfl (a1U m0 ((a0z _).append rest.uk) he rfl (a+t) (by omega) (a1a hk1)) ?_;refine a0D (fun _ m=>m.keeps (.cons _ .slnil)) ?_;refine a0e 14 rfl rfl (by kernel_rfl) rfl (.cons _ .slnil) rfl (a0h he rfl rfl rfl (a+t) (by omega) (by omega)) ?_;refine a0m 15 (by kernel_rfl) rfl ?_;refine a1Y _ (a+t) (by first|exact (a0z _).append rest.uk|exact ((a0z _).append rest.uk).set rfl _) he rfl rfl rfl rfl rfl (by omega) (by simp[a0J];omega) ?_;refine a0D (fun _ m=>m.keeps (.cons _ .slnil)) ?_;refine a0e 16 rfl rfl (by kernel_rfl) rfl (.cons _ .slnil) rfl (a0h he rfl rfl rfl (a+t+1) (by omega) (by omega)) ?_;refine a0m 17 (by kernel_rfl) rfl ?_;refine a1Y _ (a+t+1) (by first|exact (a0z _).append rest.uk|exact ((a0z _).append rest.uk).set rfl _) he rfl rfl rfl rfl rfl (by omega) (by simp[a0J];omega) ?_;refine a0D (fun _ m=>m.keeps (.cons _ .slnil)) ?_;refine a0n (by kernel_rfl) ?_;refine go 4 ?_;refine o_v rfl (OV.cast (u:=.int .i64 ((a+(t+1):Nat):Int)) (a2d rfl rfl ⟨by omega,by omega⟩) (congrArg (Value.int .i64) (by omega))) ?_;refine go 3 ?_;exact a0M (t+1) (by omega) (by omega) rfl sb (by rw[bub];first|rw[←a4d hk1 hk2] | rw[←a3v hk1 hk2 (by omega)])
    ·refine a0t rfl (a1U m0 ((a0z _).append rest.uk) he rfl (a+t) (by omega) (a1a hk1)) ?_;refine a0D (fun _ m=>m.keeps (.cons _ .slnil)) ?_;refine a0m 9 (by kernel_rfl) rfl ?_;refine a0t rfl (a1U m0 ((a0z _).append rest.uk) he rfl (a+t+1) (by omega) (a1a hk2)) ?_;refine a0D (fun _ m=>m.keeps (.cons _ .slnil)) ?_;refine a0e 14 rfl rfl (by kernel_rfl) rfl (.cons _ .slnil) rfl (a0h he rfl rfl rfl (a+t) (by omega) (by omega)) ?_;refine a0m 15 (by kernel_rfl) rfl ?_;refine a1Y _ (a+t) (by first|exact (a0z _).append rest.uk|exact ((a0z _).append rest.uk).set rfl _) he rfl rfl rfl rfl rfl (by omega) (by simp[a0J];omega) ?_;refine a0D (fun _ m=>m.keeps (.cons _ .slnil)) ?_;refine a0e 16 rfl rfl (by kernel_rfl) rfl (.cons _ .slnil) rfl (a0h he rfl rfl rfl (a+t+1) (by omega) (by omega)) ?_;refine a0m 17 (by kernel_rfl) rfl ?_;refine a1Y _ (a+t+1) (by first|exact (a0z _).append rest.uk|exact ((a0z _).append rest.uk).set rfl _) he rfl rfl rfl rfl rfl (by omega) (by simp[a0J];omega) ?_;refine a0D (fun _ m=>m.keeps (.cons _ .slnil)) ?_;refine a0n (by kernel_rfl) ?_;refine go 4 ?_;refine o_v rfl (OV.cast (u:=.int .i64 ((a+(t+1):Nat):Int)) (a2d rfl rfl ⟨by omega,by omega⟩) (congrArg (Value.int .i64) (by omega))) ?_;refine go 3 ?_;exact a0M (t+1) (by omega) (by omega) rfl sb (by rw[bub];first|rw[←a4d hk1 hk2] | rw[←a3v hk1 hk2 (by omega)])
   ·refine go 7 ?_;refine b8g rfl ?_;exact q_x ⟨rfl,_,rfl,(show i-1-a=t by omega)▸b5P m2 hi1 hjb hb hlo hhi⟩
 ·have hma:a+2≤m:=by omega
  refine go 7 ?_;refine o_v rfl (OV.cast (u:=.int .i64 ((b-m:Nat):Int)) (a1m rfl rfl ⟨by omega,by omega⟩) (congrArg (Value.int .i64) (by omega))) ?_;refine go 3 ?_;refine cb rfl (fun h80 p80=>?_) (fun h80 p80=>?_)
  ·obtain rfl:b=m+1:=by omega
   refine go 14 ?_
   refine a1z (a) (m) (fun i j=>I)
    (fun i j=>[(0,.slice (some ⟨g,0,none⟩) N cap),(1,.int .i64 ((a:Nat):Int)),(2,.int .i64 ((m:Nat):Int)),(3,.int .i64 ((m+1:Nat):Int)),(4,.func (.func f) #[] #[]),(14,.int .i64 ((i:Nat):Int)),(15,.int .i64 ((j:Nat):Int))])
    (fun i j=>[.blk g 359 (a1H (l)++rest.l).flatten])
    (fun i j=>a≤i∧i≤j∧j≤m∧(∀q,a≤q→q<i→a0I l q≤a0I l m)∧(∀q,j≤q→q<m→a0I l m<a0I l q))
    (fun i j=>j-i) ⟨by omega,by omega,by omega,fun q _ _=>by omega,fun q _ _=>by omega⟩ rfl sb rfl ?_
   intro i j ⟨hi1,hij,hjb,hlo,hhi⟩;refine go 8 ?_;refine cb rfl (fun h85 p85=>?_) (fun h85 p85=>?_)
   ·have hh:(i+j) / 2<l.length:=by omega
    have hm0:m<l.length:=by omega
    refine go 8 ?_;refine o_v rfl (a2B he he rfl (m:=(i:Int)+(j:Int)) (a3p _ (by omega) (by omega))) ?_;refine o_v rfl (a6p rfl (by decide)) ?_;refine o_v rfl (a2B he he rfl (m:=(((i+j) / 2:Nat):Int)) (by rw[IntKind.wrap_i64];omega)) ?_;refine go 4 ?_;refine a0F T.mixed ?_;refine a0e 0 rfl rfl (by kernel_rfl) rfl (.refl _) rfl (a0a rfl) ?_;refine a0e 1 rfl rfl (by kernel_rfl) rfl (.refl _) rfl (a0a rfl) ?_;refine a0e 2 rfl rfl (by kernel_rfl) rfl (.refl _) rfl (a0a rfl) ?_;refine a0e 3 rfl rfl (by kernel_rfl) rfl (.refl _) rfl (a0h he rfl rfl rfl (m) (by omega) (by omega)) ?_;refine a0e 4 rfl rfl (by kernel_rfl) rfl (.refl _) rfl (a1U m0 ((a0z _).append rest.uk) he rfl (m) (by omega) (a1a hm0)) ?_;refine a0e 5 rfl rfl (by kernel_rfl) rfl (.refl _) rfl (a0a rfl) ?_;refine a0e 6 rfl rfl (by kernel_rfl) rfl (.refl _) rfl (a0a rfl) ?_;refine a0e 7 rfl rfl (by kernel_rfl) rfl (.refl _) rfl (a0h he rfl rfl rfl ((i+j) / 2) (by omega) (by omega)) ?_;refine a0e 8 rfl rfl (by kernel_rfl) rfl (.refl _) rfl (a1U m0 ((a0z _).append rest.uk) he rfl ((i+j) / 2) (by omega) (a1a hh)) ?_;refine a0m 9 (by kernel_rfl) rfl ?_;refine a0d (hp _ _) rfl rfl ?_;refine a0D (fun _ m=>m.keeps (.refl _)) ?_;refine a0e 10 rfl rfl (by kernel_rfl) rfl (.refl _) rfl (a5o rfl rfl) ?_;refine a0e 11 rfl rfl (by kernel_rfl) rfl (.refl _) rfl (a8x rfl) ?_;refine a0n (by kernel_rfl) ?_;refine go 1 ?_;refine cb rfl (fun h103 p103=>?_) (fun h103 p103=>?_)
    ·refine go 7 ?_;exact a0X ((i+j) / 2+1) (j) ⟨by omega,by omega,by omega,fun q q1 q2=>by have:=m1.le (p:=q) (q:=(i+j) / 2) q1 (by omega) (by omega);have:=b4e p103;omega,hhi⟩ (by omega) rfl sb rfl
    ·refine go 6 ?_;exact a0X (i) ((i+j) / 2) ⟨by omega,by omega,by omega,hlo,fun q q1 q2=>by have:=m1.le (p:=(i+j) / 2) (q:=q) (by omega) q1 q2;have:=b4f p103;omega⟩ (by omega) rfl sb rfl
   ·obtain rfl:i=j:=by omega
    refine go 13 ?_
    refine a0Q (α:=Nat) 0 (fun t=>I)
     (fun t=>[(0,.slice (some ⟨g,0,none⟩) N cap),(1,.int .i64 ((a:Nat):Int)),(2,.int .i64 ((m:Nat):Int)),(3,.int .i64 ((m+1:Nat):Int)),(4,.func (.func f) #[] #[]),(14,.int .i64 ((i:Nat):Int)),(17,.int .i64 ((m-t:Nat):Int))])
     (fun t=>[.blk g 359 (a1H (bud l m t)++rest.l).flatten])
     (fun t=>t+i≤m)
     (fun t=>m-t) (by omega) rfl ⟨rfl,rfl,rfl,rfl,rfl,rfl,congrArg (fun z:Int=>some (Value.int .i64 z)) (by omega),trivial⟩ rfl ?_
    intro t ht;refine go 8 ?_;refine cb rfl (fun h110 p110=>?_) (fun h110 p110=>?_)
    ·have hbl:=a9b l m t
     have hk1:m-t<(bud l m t).length:=by omega
     have hk2:m-t-1<(bud l m t).length:=by omega
     refine go 4 ?_;refine a1I T.mixed ?_;refine a0e 0 rfl rfl (by kernel_rfl) rfl (.cons _ .slnil) rfl (a0a rfl) ?_;refine a0e 1 rfl rfl (by kernel_rfl) rfl (.cons _ .slnil) rfl (a0a rfl) ?_;refine a0e 2 rfl rfl (by kernel_rfl) rfl (.cons _ .slnil) rfl (a0a rfl) ?_;refine a0e 3 rfl rfl (by kernel_rfl) rfl (.cons _ .slnil) rfl (a0a rfl) ?_;refine a0e 4 rfl rfl (by kernel_rfl) rfl (.cons _ .slnil) rfl (OV.cast (u:=.int .i64 ((m-t-1:Nat):Int)) (a1m rfl rfl ⟨by omega,by omega⟩) (congrArg (Value.int .i64) (by omega))) ?_;refine a0e 5 rfl rfl (by kernel_rfl) rfl (.cons _ .slnil) rfl (a0a rfl) ?_;refine a0e 6 rfl rfl (by kernel_rfl) rfl (.cons _ .slnil) rfl (a0a rfl) ?_;refine a0e 7 rfl rfl (by kernel_rfl) rfl (.cons _ .slnil) rfl (OV.cast (u:=.int .i64 ((m-t-1:Nat):Int)) (a1m rfl rfl ⟨by omega,by omega⟩) (congrArg (Value.int .i64) (by omega))) ?_;refine a0e 8 rfl rfl (by kernel_rfl) rfl (.cons _ .slnil) rfl (a0h he rfl rfl rfl (m-t-1) (by omega) (by omega)) ?_;refine a0e 10 rfl rfl (by kernel_rfl) rfl (.cons _ .slnil) rfl (a0a rfl) ?_;refine a0e 11 rfl rfl (by kernel_rfl) rfl (.cons _ .slnil) rfl (a0a rfl) ?_;refine a0e 12 rfl rfl (by kernel_rfl) rfl (.cons _ .slnil) rfl (a0h he rfl rfl rfl (m-t) (by omega) (by omega)) ?_;refine a3O 9 13 (by kernel_rfl) rfl rfl ?_ ?_
     ·refine a0t rfl (a1U m0 ((a0z _).append rest.uk) he rfl (m-t-1) (by omega) (a1a hk2)) ?_;refine a0D (fun _ m=>m.keeps (.cons _ .slnil)) ?_;refine a0m 13 (by kernel_rfl) rfl ?_;refine a0t rfl (a1U m0 ((a0z _).append rest.uk) he rfl (m-t) (by omega) (a1a hk1)) ?_;refine a0D (fun _ m=>m.keeps (.cons _ .slnil)) ?_;refine a0e 14 rfl rfl (by kernel_rfl) rfl (.cons _ .slnil) rfl (a0h he rfl rfl rfl (m-t) (by omega) (by omega)) ?_;refine a0m 15 (by kernel_rfl) rfl ?_;refine a1Y _ (m-t) (by first|exact (a0z _).append rest.uk|exact ((a0z _).append rest.uk).set rfl _) he rfl rfl rfl rfl rfl (by omega) (by simp[a0J];omega) ?_;refine a0D (fun _ m=>m.keeps (.cons _ .slnil)) ?_;refine a0e 16 rfl rfl (by kernel_rfl) rfl (.cons _ .slnil) rfl (a0h he rfl rfl rfl (m-t-1) (by omega) (by omega)) ?_;refine a0m 17 (by kernel_rfl) rfl ?_;refine a1Y _ (m-t-1) (by first|exact (a0z _).append rest.uk|exact ((a0z _).append rest.uk).set rfl _) he rfl rfl rfl rfl rfl (by omega) (by simp[a0J];omega) ?_;refine a0D (fun _ m=>m.keeps (.cons _ .slnil)) ?_;refine a0n (by kernel_rfl) ?_;refine go 4 ?_;refine o_v rfl (OV.cast (u:=.int .i64 ((m-(t+1):Nat):Int)) (a1m rfl rfl ⟨by omega,by omega⟩) (congrArg (Value.int .i64) (by omega))) ?_;refine go 3 ?_;exact a0M (t+1) (by omega) (by omega) rfl sb (by rw[bud];first|rw[←a4d hk1 hk2] | rw[←a3v hk1 hk2 (by omega)])
     ·refine a0t rfl (a1U m0 ((a0z _).append rest.uk) he rfl (m-t) (by omega) (a1a hk1)) ?_;refine a0D (fun _ m=>m.keeps (.cons _ .slnil)) ?_;refine a0m 9 (by kernel_rfl) rfl ?_;refine a0t rfl (a1U m0 ((a0z _).append rest.uk) he rfl (m-t-1) (by omega) (a1a hk2)) ?_;refine a0D (fun _ m=>m.keeps (.cons _ .slnil)) ?_;refine a0e 14 rfl rfl (by kernel_rfl) rfl (.cons _ .slnil) rfl (a0h he rfl rfl rfl (m-t) (by omega) (by omega)) ?_;refine a0m 15 (by kernel_rfl) rfl ?_;refine a1Y _ (m-t) (by first|exact (a0z _).append rest.uk|exact ((a0z _).append rest.uk).set rfl _) he rfl rfl rfl rfl rfl (by omega) (by simp[a0J];omega) ?_;refine a0D (fun _ m=>m.keeps (.cons _ .slnil)) ?_;refine a0e 16 rfl rfl (by kernel_rfl) rfl (.cons _ .slnil) rfl (a0h he rfl rfl rfl (m-t-1) (by omega) (by omega)) ?_;refine a0m 17 (by kernel_rfl) rfl ?_;refine a1Y _ (m-t-1) (by first|exact (a0z _).append rest.uk|exact ((a0z _).append rest.uk).set rfl _) he rfl rfl rfl rfl rfl (by omega) (by simp[a0J];omega) ?_;refine a0D (fun _ m=>m.keeps (.cons _ .slnil)) ?_;refine a0n (by kernel_rfl) ?_;refine go 4 ?_;refine o_v rfl (OV.cast (u:=.int .i64 ((m-(t+1):Nat):Int)) (a1m rfl rfl ⟨by omega,by omega⟩) (congrArg (Value.int .i64) (by omega))) ?_;refine go 3 ?_;exact a0M (t+1) (by omega) (by omega) rfl sb (by rw[bud];first|rw[←a4d hk1 hk2] | rw[←a3v hk1 hk2 (by omega)])
    ·refine go 7 ?_;refine b8g rfl ?_;exact q_x ⟨rfl,_,rfl,(show m-i=t by omega)▸b0E m1 hi1 hjb (by omega) hlo hhi⟩
  ·have hmb2:m+2≤b:=by omega
   refine go 7 ?_;refine o_v rfl (a2B he he rfl (m:=(a:Int)+(b:Int)) (a3p _ (by omega) (by omega))) ?_;refine o_v rfl (a6p rfl (by decide)) ?_;refine o_v rfl (a2B he he rfl (m:=(((a+b) / 2:Nat):Int)) (by rw[IntKind.wrap_i64];omega)) ?_;refine go 7 ?_;refine o_v rfl (OV.cast (u:=.int .i64 ((((a+b) / 2)+m:Nat):Int)) (a2d rfl rfl ⟨by omega,by omega⟩) (congrArg (Value.int .i64) (by omega))) ?_;refine go 10 ?_;refine b1m (Ix:=(fun S R=>I)) (Lx:=(fun S R=>[(0,.slice (some ⟨g,0,none⟩) N cap),(1,.int .i64 ((a:Nat):Int)),(2,.int .i64 ((m:Nat):Int)),(3,.int .i64 ((b:Nat):Int)),(4,.func (.func f) #[] #[]),(18,.int .i64 ((((a+b) / 2):Nat):Int)),(19,.int .i64 ((((a+b) / 2)+m:Nat):Int)),(20,.int .i64 ((S:Nat):Int)),(21,.int .i64 ((R:Nat):Int))])) (Hx:=(fun S R=>[.blk g 359 (a1H (l)++rest.l).flatten])) (p:=(fun S R=>(((a+b) / 2)<m∧S=((a+b) / 2)+m-b∧R=((a+b) / 2))∨(m≤((a+b) / 2)∧S=a∧R=m))) ?_ ?_
   ·refine go 7 ?_;refine cb rfl (fun h140 p140=>?_) (fun h140 p140=>?_)
    ·refine go 4 ?_;refine o_v rfl (OV.cast (u:=.int .i64 ((((a+b) / 2)+m-b:Nat):Int)) (a1m rfl rfl ⟨by omega,by omega⟩) (congrArg (Value.int .i64) (by omega))) ?_;refine go 8 ?_;exact a4H (((a+b) / 2)+m-b) (((a+b) / 2)) (.inl ⟨by omega,rfl,rfl⟩) sb rfl rfl
    ·refine go 11 ?_;exact a4H (a) (m) (.inr ⟨by omega,rfl,rfl⟩) sb rfl rfl
   ·intro S R hS;refine go 3 ?_;refine o_v rfl (OV.cast (u:=.int .i64 ((((a+b) / 2)+m-1:Nat):Int)) (a1m rfl rfl ⟨by omega,by omega⟩) (congrArg (Value.int .i64) (by omega))) ?_;refine go 5 ?_
    refine a1z (S) (R) (fun s r=>I)
     (fun s r=>[(0,.slice (some ⟨g,0,none⟩) N cap),(1,.int .i64 ((a:Nat):Int)),(2,.int .i64 ((m:Nat):Int)),(3,.int .i64 ((b:Nat):Int)),(4,.func (.func f) #[] #[]),(18,.int .i64 ((((a+b) / 2):Nat):Int)),(19,.int .i64 ((((a+b) / 2)+m:Nat):Int)),(20,.int .i64 ((s:Nat):Int)),(21,.int .i64 ((r:Nat):Int)),(22,.int .i64 ((((a+b) / 2)+m-1:Nat):Int))])
     (fun s r=>[.blk g 359 (a1H (l)++rest.l).flatten])
     (fun s r=>S≤s∧s≤r∧r≤R∧(∀q,S≤q→q<s→a0I l q≤a0I l (((a+b) / 2)+m-1-q))∧(∀q,r≤q→q<R→a0I l (((a+b) / 2)+m-1-q)<a0I l q))
     (fun s r=>r-s) ⟨by omega,by omega,by omega,fun q _ _=>by omega,fun q _ _=>by omega⟩ rfl sb rfl ?_
    intro s r ⟨hs1,hsr,hrR,hlo,hhi⟩;refine go 8 ?_;refine cb rfl (fun h151 p151=>?_) (fun h151 p151=>?_)
    ·have hh:(s+r) / 2<l.length:=by omega
     have hh2:((a+b) / 2)+m-1-(s+r) / 2<l.length:=by omega
     refine go 8 ?_;refine o_v rfl (a2B he he rfl (m:=(s:Int)+(r:Int)) (a3p _ (by omega) (by omega))) ?_;refine o_v rfl (a6p rfl (by decide)) ?_;refine o_v rfl (a2B he he rfl (m:=(((s+r) / 2:Nat):Int)) (by rw[IntKind.wrap_i64];omega)) ?_;refine go 4 ?_;refine a0F T.mixed ?_;refine a0e 0 rfl rfl (by kernel_rfl) rfl (.refl _) rfl (a0a rfl) ?_;refine a0e 1 rfl rfl (by kernel_rfl) rfl (.refl _) rfl (a0a rfl) ?_;refine a0e 2 rfl rfl (by kernel_rfl) rfl (.refl _) rfl (a0a rfl) ?_;refine a0e 3 rfl rfl (by kernel_rfl) rfl (.refl _) rfl (a0a rfl) ?_;refine a0e 4 rfl rfl (by kernel_rfl) rfl (.refl _) rfl (OV.cast (u:=.int .i64 ((((a+b) / 2)+m-1-(s+r) / 2:Nat):Int)) (a1m rfl rfl ⟨by omega,by omega⟩) (congrArg (Value.int .i64) (by omega))) ?_;refine a0e 5 rfl rfl (by kernel_rfl) rfl (.refl _) rfl (a0h he rfl rfl rfl (((a+b) / 2)+m-1-(s+r) / 2) (by omega) (by omega)) ?_;refine a0e 6 rfl rfl (by kernel_rfl) rfl (.refl _) rfl (a1U m0 ((a0z _).append rest.uk) he rfl (((a+b) / 2)+m-1-(s+r) / 2) (by omega) (a1a hh2)) ?_;refine a0e 7 rfl rfl (by kernel_rfl) rfl (.refl _) rfl (a0a rfl) ?_;refine a0e 8 rfl rfl (by kernel_rfl) rfl (.refl _) rfl (a0a rfl) ?_;refine a0e 9 rfl rfl (by kernel_rfl) rfl (.refl _) rfl (a0h he rfl rfl rfl ((s+r) / 2) (by omega) (by omega)) ?_;refine a0e 10 rfl rfl (by kernel_rfl) rfl (.refl _) rfl (a1U m0 ((a0z _).append rest.uk) he rfl ((s+r) / 2) (by omega) (a1a hh)) ?_;refine a0m 11 (by kernel_rfl) rfl ?_;refine a0d (hp _ _) rfl rfl ?_;refine a0D (fun _ m=>m.keeps (.refl _)) ?_;refine a0e 12 rfl rfl (by kernel_rfl) rfl (.refl _) rfl (a5o rfl rfl) ?_;refine a0e 13 rfl rfl (by kernel_rfl) rfl (.refl _) rfl (a8x rfl) ?_;refine a0n (by kernel_rfl) ?_;refine go 1 ?_;refine cb rfl (fun h171 p171=>?_) (fun h171 p171=>?_)
     ·refine go 7 ?_;exact a0X ((s+r) / 2+1) (r) ⟨by omega,by omega,by omega,c4Z m1 m2 ham hmb rfl hS (h:=(s+r) / 2) (r:=r) (by omega) (by omega) hrR (b4e p171),hhi⟩ (by omega) rfl sb rfl
     ·refine go 6 ?_;exact a0X (s) ((s+r) / 2) ⟨by omega,by omega,by omega,hlo,c4Y m1 m2 ham hmb rfl hS (h:=(s+r) / 2) (s:=s) hs1 (by omega) (by omega) (b4f p171)⟩ (by omega) rfl sb rfl
    ·obtain rfl:s=r:=by omega
     obtain⟨hx,hy⟩:=c0T m1 m2 ham hmb rfl hS hs1 hrR hlo hhi
     have g0:a≤s:=by omega
     have g1:s≤m:=by omega
     have g2:m≤((a+b) / 2+m-s):=by omega
     have g3:((a+b) / 2+m-s)≤b:=by omega
     have hc:s+(((a+b) / 2+m-s)-m)=((a+b) / 2):=by omega
     refine go 9 ?_;refine o_v rfl (OV.cast (u:=.int .i64 ((((a+b) / 2+m-s):Nat):Int)) (a1m rfl rfl ⟨by omega,by omega⟩) (congrArg (Value.int .i64) (by omega))) ?_;refine go 4 ?_;refine a5d (α:=List Pkd) (Ix:=(fun k=>I)) (Lx:=(fun k=>[(0,.slice (some ⟨g,0,none⟩) N cap),(1,.int .i64 ((a:Nat):Int)),(2,.int .i64 ((m:Nat):Int)),(3,.int .i64 ((b:Nat):Int)),(4,.func (.func f) #[] #[]),(18,.int .i64 ((((a+b) / 2):Nat):Int)),(20,.int .i64 ((s:Nat):Int)),(24,.int .i64 ((((a+b) / 2+m-s):Nat):Int))])) (Hx:=(fun k=>[.blk g 359 (a1H (k)++rest.l).flatten])) (p:=(fun k=>Rot l k a s m ((a+b) / 2+m-s) b)) ?_ ?_
     ·refine go 6 ?_;refine sxb 181 rfl (fun h181 p181=>?_) (fun h181 p181=>?_)
      ·refine go 6 ?_;refine cb rfl (fun h185 p185=>?_) (fun h185 p185=>?_)
       ·refine go 7 ?_;refine a1n (c6W _ l N hN g s m ((a+b) / 2+m-s) f (by omega) (by omega) (by omega) (by omega)) rfl rfl (fun v191 s191 q191=>?_);obtain⟨rfl,k,rfl,hkl,hk⟩:=q191;refine go 2 ?_;exact a2a k (Rot.of g1 g2 (by omega) hkl hk hx) sb rfl rfl
       ·refine go 2 ?_;exact a2a l (Rot.id (by omega) g1 g2) sb rfl rfl
      ·refine go 6 ?_;refine a0T rfl ?_;refine go 2 ?_;exact a2a l (Rot.id (by omega) g1 g2) sb rfl rfl
     ·intro k hk;refine go 1 ?_;refine a5d (α:=List Pkd) (Ix:=(fun k1=>I)) (Lx:=(fun k1=>[(0,.slice (some ⟨g,0,none⟩) N cap),(1,.int .i64 ((a:Nat):Int)),(2,.int .i64 ((m:Nat):Int)),(3,.int .i64 ((b:Nat):Int)),(4,.func (.func f) #[] #[]),(18,.int .i64 ((((a+b) / 2):Nat):Int)),(20,.int .i64 ((s:Nat):Int)),(24,.int .i64 ((((a+b) / 2+m-s):Nat):Int))])) (Hx:=(fun k1=>[.blk g 359 (a1H (k1)++rest.l).flatten])) (p:=(fun k1=>Seg k k1 a ((a+b) / 2))) ?_ ?_
      ·refine go 6 ?_;refine sxb 195 rfl (fun h195 p195=>?_) (fun h195 p195=>?_)
       ·refine go 6 ?_;refine cb rfl (fun h199 p199=>?_) (fun h199 p199=>?_)
        ·refine go 7 ?_;refine a1n (ih k a s ((a+b) / 2) (hk.len.trans hN) (by omega) (by omega) (by omega) (by have:=hk.len;omega) (hk.p1 m1 g1) ((hk.p2 m2 g1 g2 g3).sub (Nat.le_refl _) (by omega))) rfl rfl (fun v205 s205 q205=>?_);obtain⟨rfl,k1,rfl,hk1⟩:=q205;refine go 2 ?_;exact a2a k1 hk1 sb rfl rfl
        ·refine go 2 ?_;exact a2a k (Seg.refl' (hk.left m1 m2 g1 g2 g3 hc (by omega) g0)) sb rfl rfl
       ·refine go 6 ?_;refine a0T rfl ?_;refine go 2 ?_;exact a2a k (Seg.refl' (hk.left m1 m2 g1 g2 g3 hc (by omega) g0)) sb rfl rfl
      ·intro k1 hk1
       have hl1:k1.length=N:=hk1.len.trans (hk.len.trans hN)
       refine go 6 ?_;refine sxb 209 rfl (fun h209 p209=>?_) (fun h209 p209=>?_)
       ·refine go 6 ?_;refine cb rfl (fun h213 p213=>?_) (fun h213 p213=>?_)
        ·refine go 7 ?_;refine a1n (ih k1 ((a+b) / 2) ((a+b) / 2+m-s) b hl1 (by omega) (by omega) (by omega) (by omega) (hk1.keepD (Nat.le_refl _) ((hk.p3 m1 g0 g1 g2).sub (by omega) (Nat.le_refl _))) (hk1.keepD (by omega) (hk.p4 m2 g1 g2))) rfl rfl (fun v219 s219 q219=>?_);obtain⟨rfl,k2,rfl,hk2⟩:=q219;refine go 1 ?_;refine a6E rfl ?_;exact q_x ⟨rfl,k2,rfl,hk.done m1 m2 g0 g1 g2 g3 hb hc hx hy hk1 hk2⟩
        ·refine go 1 ?_;refine a6E rfl ?_;exact q_x ⟨rfl,k1,rfl,hk.done m1 m2 g0 g1 g2 g3 hb hc hx hy hk1 (Seg.refl' (hk1.keepD (Nat.le_refl _) (hk.right m1 m2 g0 g1 g2 hc (by omega) g3)))⟩
       ·refine go 6 ?_;refine a0T rfl ?_;refine go 1 ?_;refine a6E rfl ?_;exact q_x ⟨rfl,k1,rfl,hk.done m1 m2 g0 g1 g2 g3 hb hc hx hy hk1 (Seg.refl' (hk1.keepD (Nat.le_refl _) (hk.right m1 m2 g0 g1 g2 hc (by omega) g3)))⟩
theorem b3I (I:IMap) {rest:Rst 15} {cap:Nat} (N g:Nat) (f:FuncId) (hp:∀x y:Pkd,FnV Tryz.prog f #[.agg (Day.ch x).toArray,.agg (Day.ch y).toArray] I (.int .i64 ((Day.day x-Day.day y)))) (hN0:N≤1000000) (W:Nat):∀(l:List Pkd) (a m b:Nat),l.length=N→b-a≤W→a<m→m<b→b≤l.length→SrtD l a m→SrtD l m b→FnX Tryz.prog 348 #[.slice (some ⟨g,0,none⟩) N cap,.int .i64 ((a:Nat):Int),.int .i64 ((m:Nat):Int),.int .i64 ((b:Nat):Int),.func (.func f) #[] #[]] I [.blk g 359 (a1H (l)++rest.l).flatten] (fun u r=>u = .tuple #[]∧∃m,r = .blk g 359 (a1H (m)++rest.l).flatten∧Seg l m a b):=by
 induction W using Nat.strongRecOn with
 |_ W ih=>exact fun l a m b hN hW ham hmb hb m1 m2=>b7Y I N g f hp hN0 W (fun l' a' m' b' h1 h2 h3 h4 h5 h6 h7=>ih (b'-a') h2 l' a' m' b' h1 (Nat.le_refl _) h3 h4 h5 h6 h7) l a m b hN hW ham hmb hb m1 m2
theorem c7g (I:IMap) {rest:Rst 15} {cap:Nat} (N g:Nat) (f:FuncId) (hp:∀x y:Pkd,FnV Tryz.prog f #[.agg (Day.ch x).toArray,.agg (Day.ch y).toArray] I (.int .i64 ((Day.day x-Day.day y)))) (hN0:N≤1000000) (l:List Pkd) (hN:l.length=N) :
    FnX Tryz.prog 333 #[.slice (some ⟨g,0,none⟩) N cap,.int .i64 ((N:Nat):Int),.func (.func f) #[] #[]] I [.blk g 359 (a1H (l)++rest.l).flatten] (fun u r=>u = .tuple #[]∧∃m,r = .blk g 359 (a1H (m)++rest.l).flatten∧Stb l m∧SrtD m 0 N):=by
 refine enter Tryz.func333 Tryz.call333 rfl Tryz.ntmps333 rfl (fun w0=>?_);refine go 14 ?_
 refine a1z (0) (l) (fun a m=>I)
  (fun a m=>[(0,.slice (some ⟨g,0,none⟩) N cap),(1,.int .i64 ((N:Nat):Int)),(2,.func (.func f) #[] #[]),(6,.int .i64 20),(7,.int .i64 ((a:Nat):Int)),(8,.int .i64 ((a+20:Nat):Int))])
  (fun a m=>[.blk g 359 (a1H (m)++rest.l).flatten])
  (fun a m=>a≤N∧Stb l m∧Pre m 20 a)
  (fun a m=>N-a) ⟨Nat.zero_le _,Stb.refl l,.zero⟩ rfl sb rfl ?_
 intro a m ⟨ha,hs,hP⟩
 have hmN:m.length=N:=hs.1.symm.trans hN
 refine go 8 ?_;refine cb rfl (fun h13 p13=>?_) (fun h13 p13=>?_)
 ·refine go 10 ?_;refine a1n (b5C _ m N hmN g a (a+20) f hp (by omega) (by omega) (by omega)) rfl rfl (fun v18 s18 q18=>?_);obtain⟨rfl,k18,rfl,h18⟩:=q18;refine go 11 ?_;refine o_v rfl (OV.cast (u:=.int .i64 ((a+20+20:Nat):Int)) (a2d rfl rfl ⟨by omega,by omega⟩) (congrArg (Value.int .i64) (by omega))) ?_;refine go 4 ?_;exact a0X (a+20) (k18) ⟨by omega,hs.trans h18.stb,hP.put h18⟩ (by omega) rfl sb rfl
 ·refine go 12 ?_;refine a1n (b5C _ m N hmN g a N f hp ha (by omega) (by omega)) rfl rfl (fun v27 s27 q27=>?_);obtain⟨rfl,m3,rfl,h27⟩:=q27;refine go 3 ?_
  refine a1z (20) (m3) (fun q m=>I)
   (fun q m=>[(0,.slice (some ⟨g,0,none⟩) N cap),(1,.int .i64 ((N:Nat):Int)),(2,.func (.func f) #[] #[]),(6,.int .i64 ((q:Nat):Int))])
   (fun q m=>[.blk g 359 (a1H (m)++rest.l).flatten])
   (fun q m=>1≤q∧Stb l m∧Blk m q N 0)
   (fun q m=>N-q) ⟨by omega,hs.trans h27.stb,hP.last h27 ha (by omega)⟩ rfl sb rfl ?_
  intro q m ⟨hq,hs,hB⟩
  have hmN:m.length=N:=hs.1.symm.trans hN
  refine go 8 ?_;refine cb rfl (fun h30 p30=>?_) (fun h30 p30=>?_)
  ·refine go 6 ?_;refine o_v rfl (OV.cast (u:=.int .i64 ((2 * q:Nat):Int)) (b5b rfl rfl ⟨by omega,by omega⟩) (congrArg (Value.int .i64) (by omega))) ?_;refine go 6 ?_
   refine a1z (0) (m) (fun a k=>I)
    (fun a k=>[(0,.slice (some ⟨g,0,none⟩) N cap),(1,.int .i64 ((N:Nat):Int)),(2,.func (.func f) #[] #[]),(6,.int .i64 ((q:Nat):Int)),(7,.int .i64 ((a:Nat):Int)),(8,.int .i64 ((a+2 * q:Nat):Int))])
    (fun a k=>[.blk g 359 (a1H (k)++rest.l).flatten])
    (fun a k=>a≤N∧Stb l k∧Pre k (2 * q) a∧Blk k q N a)
    (fun a k=>N-a) ⟨Nat.zero_le _,hs,.zero,hB⟩ rfl ⟨rfl,rfl,rfl,rfl,rfl,congrArg (fun z:Int=>some (Value.int .i64 z)) (by omega),trivial⟩ rfl ?_
   intro a k ⟨ha,hkS,hkP,hkB⟩
   have hkN:k.length=N:=hkS.1.symm.trans hN
   refine go 8 ?_;refine cb rfl (fun h35 p35=>?_) (fun h35 p35=>?_)
   ·obtain⟨t1,t2,t3⟩:=hkB.two (by omega) hq;refine go 9 ?_;refine o_v rfl (OV.cast (u:=.int .i64 ((a+q:Nat):Int)) (a2d rfl rfl ⟨by omega,by omega⟩) (congrArg (Value.int .i64) (by omega))) ?_;refine go 3 ?_;refine a1n (b3I _ N g f hp hN0 _ k a (a+q) (a+2 * q) hkN (Nat.le_refl _) (by omega) (by omega) (by omega) t1 t2) rfl rfl (fun v43 s43 q43=>?_);obtain⟨rfl,k43,rfl,h43⟩:=q43;refine go 11 ?_;refine o_v rfl (OV.cast (u:=.int .i64 ((2 * q:Nat):Int)) (b5b rfl rfl ⟨by omega,by omega⟩) (congrArg (Value.int .i64) (by omega))) ?_;refine o_v rfl (OV.cast (u:=.int .i64 ((a+2 * q+2 * q:Nat):Int)) (a2d rfl rfl ⟨by omega,by omega⟩) (congrArg (Value.int .i64) (by omega))) ?_;refine go 4 ?_;exact a0X (a+2 * q) (k43) ⟨by omega,hkS.trans h43.stb,hkP.put h43,t3.same fun z z1 z2=>h43.out z (.inr (by omega))⟩ (by omega) rfl sb rfl
   ·refine go 6 ?_;refine a5d (α:=List Pkd) (Ix:=(fun k=>I)) (Lx:=(fun k=>[(0,.slice (some ⟨g,0,none⟩) N cap),(1,.int .i64 ((N:Nat):Int)),(2,.func (.func f) #[] #[]),(6,.int .i64 ((q:Nat):Int))])) (Hx:=(fun k=>[.blk g 359 (a1H (k)++rest.l).flatten])) (p:=(fun k=>Stb l k∧Blk k (2 * q) N 0)) ?_ ?_
    ·refine go 4 ?_;refine o_v rfl (OV.cast (u:=.int .i64 ((a+q:Nat):Int)) (a2d rfl rfl ⟨by omega,by omega⟩) (congrArg (Value.int .i64) (by omega))) ?_;refine go 10 ?_;refine cb rfl (fun h54 p54=>?_) (fun h54 p54=>?_)
     ·obtain⟨t1,t2⟩:=hkB.one (by omega);refine go 7 ?_;refine a1n (b3I _ N g f hp hN0 _ k a (a+q) N hkN (Nat.le_refl _) (by omega) (by omega) (by omega) t1 (t2 (by omega))) rfl rfl (fun v60 s60 q60=>?_);obtain⟨rfl,k60,rfl,h60⟩:=q60;refine go 2 ?_;exact a2a k60 ⟨hkS.trans h60.stb,hkP.last h60 ha (by omega)⟩ sb rfl rfl
     ·refine go 2 ?_;exact a2a k ⟨hkS,hkP.last (Seg.refl' (hkB.all (by omega))) ha (by omega)⟩ sb rfl rfl
    ·intro k ⟨hkS,hkB⟩;refine go 2 ?_;refine o_v rfl (OV.cast (u:=.int .i64 ((2 * q:Nat):Int)) (b5b rfl rfl ⟨by omega,by omega⟩) (congrArg (Value.int .i64) (by omega))) ?_;refine go 4 ?_;exact a0X (2 * q) (k) ⟨by omega,hkS,hkB⟩ (by omega) rfl sb rfl
  ·refine go 4 ?_;refine a6E rfl ?_;exact q_x ⟨rfl,m,rfl,hs,hB.all (by omega)⟩
theorem b4T (I:IMap) {rest:Rst 15} {cap:Nat} (N g:Nat) (f:FuncId) (hp:∀x y:Pkd,FnV Tryz.prog f #[.agg (Day.ch x).toArray,.agg (Day.ch y).toArray] I (.int .i64 ((Day.day x-Day.day y)))) (hN0:N≤1000000) (l:List Pkd) (hN:l.length=N) :
    FnX Tryz.prog 301 #[.slice (some ⟨g,0,none⟩) N cap,.func (.func f) #[] #[]] I [.blk g 359 (a1H (l)++rest.l).flatten] (fun u r=>u = .tuple #[]∧∃m,r = .blk g 359 (a1H (m)++rest.l).flatten∧Stb l m∧SrtD m 0 N):=by
 refine enter Tryz.func301 Tryz.call301 rfl Tryz.ntmps301 rfl (fun w0=>?_);refine go 6 ?_;refine a1n (c7g _ N g f hp hN0 l hN) rfl rfl (fun v8 s8 q8=>?_);obtain⟨rfl,m8,rfl,h8⟩:=q8;refine go 1 ?_;refine a6E rfl ?_;exact q_x ⟨rfl,m8,rfl,h8⟩
theorem b7i (I:IMap) (f:FuncId) :
    FnV Tryz.prog 347 #[.slice none 0 0,.int .i64 0,.int .i64 0,.func (.func f) #[] #[]] I (.tuple #[]):=by
 refine enter Tryz.func347 Tryz.call347 rfl Tryz.ntmps347 rfl (fun w0=>?_);refine go 3 ?_;refine o_v rfl (OV.cast (u:=.int .i64 1) (a2d rfl rfl ⟨by omega,by omega⟩) rfl) ?_;refine go 4 ?_
 refine a0Q (α:=Nat) 0 (fun i=>I)
  (fun i=>[(0,.slice none 0 0),(1,.int .i64 0),(2,.int .i64 0),(3,.func (.func f) #[] #[]),(8,.int .i64 1)])
  (fun i=>[])
  (fun i=>True)
  (fun i=>0) trivial rfl sb rfl ?_
 intro i _;refine go 8 ?_;refine cb rfl (fun h14 p14=>?_) (fun h14 p14=>?_)
 ·exact absurd p14 (by decide)
 ·refine go 4 ?_;refine a6E rfl ?_;exact q_v rfl
theorem c0X (I:IMap) (f:FuncId) :
    FnV Tryz.prog 333 #[.slice none 0 0,.int .i64 0,.func (.func f) #[] #[]] I (.tuple #[]):=by
 refine enter Tryz.func333 Tryz.call333 rfl Tryz.ntmps333 rfl (fun w0=>?_);refine go 14 ?_
 refine a0Q (α:=Nat) 0 (fun i=>I)
  (fun i=>[(0,.slice none 0 0),(1,.int .i64 0),(2,.func (.func f) #[] #[]),(6,.int .i64 20),(7,.int .i64 0),(8,.int .i64 20)])
  (fun i=>[])
  (fun i=>True)
  (fun i=>0) trivial rfl sb rfl ?_
 intro i _;refine go 8 ?_;refine cb rfl (fun h13 p13=>?_) (fun h13 p13=>?_)
 ·exact absurd p13 (by decide)
 ·refine go 12 ?_;refine a0d (b7i _ f) rfl rfl ?_;refine go 3 ?_
  refine a0Q (α:=Nat) 0 (fun i=>I)
   (fun i=>[(0,.slice none 0 0),(1,.int .i64 0),(2,.func (.func f) #[] #[]),(6,.int .i64 20)])
   (fun i=>[])
   (fun i=>True)
   (fun i=>0) trivial rfl sb rfl ?_
  intro i _;refine go 8 ?_;refine cb rfl (fun h30 p30=>?_) (fun h30 p30=>?_)
  ·exact absurd p30 (by decide)
  ·refine go 4 ?_;refine a6E rfl ?_;exact q_v rfl
theorem c7c (I:IMap) (f:FuncId) :
    FnV Tryz.prog 301 #[.slice none 0 0,.func (.func f) #[] #[]] I (.tuple #[]):=by
 refine enter Tryz.func301 Tryz.call301 rfl Tryz.ntmps301 rfl (fun w0=>?_);refine go 6 ?_;refine a0d (c0X _ f) rfl rfl ?_;refine go 1 ?_;refine a6E rfl ?_;exact q_v rfl
theorem c9w (I:IMap) (v:Value) (l:List Pkd) (hN0:l.length≤1000000) (f:FuncId) (hp:∀x y:Pkd,FnV Tryz.prog f #[.agg (Day.ch x).toArray,.agg (Day.ch y).toArray] I (.int .i64 (Day.day x-Day.day y))) :
  FnX Tryz.prog 301 #[v,.func (.func f) #[] #[]] I [.row v 359 15 l.length (a1H l).flatten] (fun u r=>u = .tuple #[]∧r = .row v 359 15 l.length (a1H (a0U l)).flatten):=
 FnX.of_rowV (args:=fun v=>[v,.func (.func f) #[] #[]]) (a0z l) (a0J l)
  (fun h0 hv=>by
   obtain rfl:=List.eq_nil_of_length_eq_zero h0;subst hv
   exact FnX.of_V (c7c I f))
  (fun g cap rest hv hR hc hl=>by
   subst hv;refine FnX.back (yss:=a1H (a0U l)) (a0z _) hR (by rw[a0J,a4j]) hc hl ?_;refine FnH.mono (b4T I (rest:=⟨rest,hR⟩) (cap:=cap) l.length g f hp hN0 l rfl) fun u I' H' hI h=>?_
   obtain⟨h1,r',h2,h3,m,h4,h5,h6⟩:=h
   have hml:m.length=l.length:=h5.1.symm
   obtain rfl:=b6z h5 (SrtD.pw (by rw[hml];exact h6))
   exact⟨h1,r',h2,⟨h3,rfl⟩,h4⟩)
theorem c6z (I:IMap) (x y:Pkd) :
    FnV Tryz.prog 302 #[.agg (Day.ch x).toArray,.agg (Day.ch y).toArray] I (.int .i64 (Day.day x-Day.day y)):=by
 refine enter Tryz.func302 Tryz.call302 rfl Tryz.ntmps302 rfl (fun w0=>?_)
 show SX _ _ _ (b1j [.agg x.cells.toArray,.agg y.cells.toArray] 0) _ _
 refine go 3 ?_;refine a0B _ rfl rfl rfl (fun g2=>?_);refine go 1 ?_;refine a0B _ rfl rfl rfl (fun g3=>?_);refine go 11 ?_;refine o_v rfl (a1m rfl rfl ⟨by have:=x.lo;have:=x.hi;have:=y.lo;have:=y.hi;omega,by have:=x.lo;have:=x.hi;have:=y.lo;have:=y.hi;omega⟩) ?_;refine go 4 ?_;refine a0s rfl rfl ?_;exact q_v rfl
theorem b7e (I:IMap) (vc:Value) (c:List Kind) (hvc:RdS I vc c) (hsc:SmC c) (g1:Nat) (c1:ICells I g1 0 [vc]) (g2:Nat) (v:Value) (st:List Part) (hv:RdS I v st) (hsf:SmF st) (e:Evt) (hse:SmE e) :
    FnG Tryz.prog 303 #[.agg e.cells.toArray,.pointer (some ⟨g1,0,none⟩),.pointer (some ⟨g2,0,none⟩)] I (.blk g2 53 [v]) (fun u J r=>u = .int .i64 (a0q c st e).2∧∃w,r = .blk g2 53 [w]∧RdS J w (a0q c st e).1):=by
 refine enter Tryz.func303 Tryz.call303 rfl Tryz.ntmps303 rfl (fun w0=>?_);refine go 3 ?_;refine a0B _ rfl rfl rfl (fun g3=>?_);refine go 5 ?_;refine o_v rfl (a0G he rfl c1 rfl) ?_;refine go 3 ?_;refine a0O (b9e _ vc c hvc hsc v st hv hsf e hse) rfl rfl (fun v9 I9 j9 q9=>?_);obtain⟨w9,rfl,hw9⟩:=q9;refine go 4 ?_;refine a0f ?_;refine a0p _ he rfl rfl rfl rfl rfl (by simp[hw9.one]) ?_;refine go 10 ?_;refine a0s rfl rfl ?_;refine a0f ?_;refine a0b ?_;exact q_g ⟨rfl,w9,rfl,hw9⟩
theorem b5t (I:IMap) (vc:Value) (c:List Kind) (hvc:RdS I vc c) (hsc:SmC c) (v:Value) (l:List Rep) (hv:RdS I v l) (hl:l.length≤1000000) (hsl:∀r∈l,∀e∈r.options,SmE e) (hgd:∀r∈l,a0w r=true) (w:Value) (ch:List Int) (hw:RdS I w ch) (hlc:ch.length=l.length) (day:Int) :
    FnI Tryz.prog 243 #[.agg #[vc],v,w,.int .i64 day] I (fun u J=>u = .tuple #[.int .i64 (a4z c l ch day).1,.int .i64 (a4z c l ch day).2]):=by
 obtain⟨A,c0,rfl,hA,hc,hm⟩:=hv;obtain⟨B,c1,rfl,hB,hc1,hm1⟩:=hw;refine enter Tryz.func243 Tryz.call243 rfl Tryz.ntmps243 rfl (fun w0=>?_);refine go 3 ?_;refine a0B _ rfl rfl rfl (fun g4=>?_);refine go 6 ?_;refine a1f 359 15 ?_;refine go 12 ?_
 refine a3B ((0:Nat)) (_) ([]) ([]) (fun i v xs out=>I)
  (fun i v xs out=>[(4,.pointer (some ⟨g4,0,none⟩)),(2,.slice B ch.length c1),(3,.int .i64 day),(10,v),(19,.slice A l.length c0),(20,.int .i64 ((l.length:Nat):Int)),(21,.int .i64 ((i:Nat):Int))])
  (fun i v xs out=>[.row v 359 15 out.length xs,.blk g4 24 [vc]])
  (fun i v xs out=>i≤l.length∧a3f day l ch i=out∧Flat I xs out)
  (fun i v xs out=>l.length-i) ⟨Nat.zero_le _,rfl,.nil⟩ rfl sb rfl ?_
 intro i v xs out ⟨hi,hw,hF⟩
 have hol:out.length≤i:=by rw[←hw];exact c3b _ _ _ _
 refine go 6 ?_;refine cb rfl (fun h22 p22=>?_) (fun h22 p22=>?_)
 ·have hlt:i<l.length:=by omega
  have hlt2:i<ch.length:=by omega
  refine go 7 ?_;obtain⟨b24,o24,w24,e24,c24,r24⟩:=RdA.at_ hA (i:=i) hlt;obtain⟨q24,rfl,S24,d24,rfl,hS24,hd24,hm24⟩:=r24;refine o_v rfl (a0h he rfl rfl e24 (i) (by omega) hlt) ?_;refine o_v rfl (a0G he rfl c24 rfl) ?_;refine go 1 ?_;refine a0j he rfl (fun g12=>?_);refine go 2 ?_;refine a0p _ he rfl rfl rfl rfl rfl rfl ?_;refine go 6 ?_;obtain⟨b28,o28,w28,e28,c28,r28⟩:=RdA.at_ hB (i:=i) hlt2;obtain rfl:=r28;refine o_v rfl (a0h he rfl rfl e28 (i) (by omega) hlt2) ?_;refine o_v rfl (a0K he rfl (c28 0 _ rfl)) ?_;refine go 8 ?_;refine sxb 32 rfl (fun h32 p32=>?_) (fun h32 p32=>?_)
  ·refine go 7 ?_;refine sxb 39 rfl (fun h39 p39=>?_) (fun h39 p39=>?_)
   ·have hk:ch[i].toNat<l[i].options.length:=by omega
    have hday:=a8a (a3a (hgd _ (List.getElem_mem hlt)) _ (List.getElem_mem hk))
    refine go 3 ?_;obtain⟨b43,o43,w43,e43,c43,r43⟩:=RdA.at_ hS24 (i:=ch[i].toNat) hk;obtain rfl:=r43;refine a1d (a0R rfl rfl h39 (a0t rfl (a0h he rfl rfl e43 (ch[i].toNat) (by omega) hk) ?_));refine go 1 ?_;refine a1d (a0R rfl rfl h39 (a0t rfl (a0K he rfl (c43 1 _ rfl)) ?_));refine go 5 ?_;refine cb rfl (fun h48 p48=>?_) (fun h48 p48=>?_)
    ·refine go 5 ?_;obtain⟨b53,o53,w53,e53,c53,r53⟩:=RdA.at_ hS24 (i:=ch[i].toNat) hk;obtain rfl:=r53;refine o_v rfl (a0h he rfl rfl e53 (ch[i].toNat) (by omega) hk) ?_;refine o_v rfl (a0G he rfl c53 rfl) ?_;refine go 2 ?_;refine a0t rfl (a0H (pl:=[(0,14),(14,1)]) he he rfl rfl) ?_;refine go 1 ?_;refine a0c he he rfl rfl rfl rfl rfl rfl rfl (fun v57=>?_);refine go 1 ?_;refine a0o ?_;refine a0v he he rfl rfl rfl rfl rfl (by omega) (by omega) rfl (fun v58=>?_);refine go 9 ?_;refine a0f ?_;refine a0b ?_;refine a0f ?_;refine a0b ?_;exact a1N (i+1) (_) (_) (out++[⟨l[i].options[ch[i].toNat],i,hday.1,hday.2⟩]) ⟨by omega,c8U hlt hlt2 hw p32 hk p48 hday,hF.append (.one rfl)⟩ (by omega) rfl sb (by first|rfl|(simp only[List.length_append,List.length_singleton];rfl)|simp only[List.length_append,List.length_singleton])
    ·refine go 8 ?_;refine a0b ?_;exact a1N (i+1) (_) (_) (out) ⟨by omega,c6A hlt hlt2 hw hk p48,hF⟩ (by omega) rfl sb (by first|rfl|(simp only[List.length_append,List.length_singleton];rfl)|simp only[List.length_append,List.length_singleton])
   ·refine go 11 ?_;refine a0T rfl ?_;refine go 8 ?_;refine a0b ?_;exact a1N (i+1) (_) (_) (out) ⟨by omega,c8S hlt hlt2 hw p39,hF⟩ (by omega) rfl sb (by first|rfl|(simp only[List.length_append,List.length_singleton];rfl)|simp only[List.length_append,List.length_singleton])
  ·refine go 18 ?_;refine a0T rfl ?_;refine go 8 ?_;refine a0b ?_;exact a1N (i+1) (_) (_) (out) ⟨by omega,c8T hlt hlt2 hw p32,hF⟩ (by omega) rfl sb (by first|rfl|(simp only[List.length_append,List.length_singleton];rfl)|simp only[List.length_append,List.length_singleton])
 ·have e:i=l.length:=(by omega)
  subst e;refine go 9 ?_;obtain⟨xss,rfl,hx⟩:=FlatC.of hF;obtain rfl:=c2g hx;refine a1n (c9w _ v out (by omega) 302 (fun x y=>c6z _ x y)) rfl rfl (fun v61 s61 q61=>?_);obtain⟨rfl,rfl⟩:=q61
  have hso:=a4j out
  refine a0l (l:=a0U out) rfl (by rw[a4j]) ((b6Z _).flat) (fun I61 j61 R61=>?_)
  have hvc:=hvc.le j61
  refine go 5 ?_;refine a0j he rfl (fun g14=>?_);refine go 4 ?_;obtain⟨A6,c6,rfl,hA6,_,_⟩:=R61;refine a0f ?_;refine a1Q (fun Ig4 jg4 cg4=>?_)
  have hvc:=hvc.le jg4
  have hA6:=hA6.le jg4
  refine o_v rfl (a1i rfl rfl) ?_;refine go 12 ?_
  refine a3B (0) ([]) (.slice none 0 0) (Ig4) (fun i st v14 J=>J)
   (fun i st v14 J=>[(15,.func (.func 303) #[] #[.pointer (some ⟨g4,0,none⟩),.pointer (some ⟨g14,0,none⟩)]),(63,.slice A6 (a0U out).length c6),(64,.int .i64 (((a0U out).length:Nat):Int)),(65,.int .i64 ((i:Nat):Int))])
   (fun i st v14 J=>[.blk g14 53 [v14]])
   (fun i st v14 J=>i≤(a0U out).length∧ILe Ig4 J∧RdS J v14 st∧SmF st∧a3m c [] (a0U out)=a3m c st ((a0U out).drop i))
   (fun i st v14 J=>(a0U out).length-i) ⟨Nat.zero_le _,ILe.refl _,RdS.nil',SmF.nil,rfl⟩ rfl sb rfl ?_
  intro i st v14 J ⟨hi,hJ,hv14,hsf,hgo⟩
  have hvc:=hvc.le hJ
  have hA6:=hA6.le hJ
  have cg4:=cg4.le hJ
  refine go 6 ?_;refine cb rfl (fun h66 p66=>?_) (fun h66 p66=>?_)
  ·have hlt:i<(a0U out).length:=by omega
   have hse:SmE (a0U out)[i].e:=by
     obtain⟨r,hr,he⟩:=c3c (day:=day) (l:=l) (ch:=ch) (n:=l.length) (p:=(a0U out)[i]) (by rw[hw];exact a4k.1 (List.getElem_mem hlt));exact hsl r hr _ he
   refine go 6 ?_;obtain⟨b67,o67,w67,e67,c67,r67⟩:=RdA.at_ hA6 (i:=i) hlt;obtain rfl:=r67;refine o_v rfl (a0h he rfl rfl e67 (i) (by omega) hlt) ?_;refine o_v rfl (a0G he rfl c67 rfl) ?_;refine go 1 ?_;refine a0j he rfl (fun g17=>?_);refine go 1 ?_;refine a0p _ he rfl rfl rfl rfl rfl rfl ?_;refine go 6 ?_;refine o_v rfl (a7Y ((a0U out)[i].e.cells) m0 he rfl rfl rfl) ?_;refine go 1 ?_;refine a0f ?_;refine a7K (b7e _ vc c hvc hsc g4 cg4 g14 v14 st hv14 hsf (a0U out)[i].e hse) rfl rfl (fun v72 I72 s72 j72 q72=>?_);obtain⟨rfl,w72,rfl,hw72⟩:=q72;refine go 9 ?_;refine cb rfl (fun h74 p74=>?_) (fun h74 p74=>?_)
   ·have hok:¬(a0q c st (a0U out)[i].e).2=0:=by simpa using p74
    refine go 15 ?_;refine a1F rfl rfl rfl ?_;exact q_i (by simp only[a4z,hw,hgo,a9o hlt,if_neg hok])
   ·have hok:(a0q c st (a0U out)[i].e).2=0:=by simpa using p74
    refine go 8 ?_;refine a0f ?_;refine a0b ?_;exact a1N (i+1) (_) (_) (I72) ⟨by omega,hJ.trans j72,hw72,a6J hsf hse,by rw[hgo,a9o hlt,if_pos hok]⟩ (by omega) rfl sb rfl
  ·refine go 12 ?_;refine a1F rfl rfl rfl ?_;exact q_i (by simp only[a4z,hw,hgo,List.drop_eq_nil_of_le (show (a0U out).length≤i by omega)];rfl)
theorem c5X (I:IMap) (vc:Value) (c:List Kind) (hvc:RdS I vc c) (hsc:SmC c) (v:Value) (l:List Rep) (hv:RdS I v l) (hl:l.length≤1000000) (hsl:∀r∈l,∀e∈r.options,SmE e) (w:Value) (ch:List Int) (hw:RdS I w ch) :
    FnI Tryz.prog 244 #[.agg #[vc],v,w] I (fun u J=>u = .tuple #[.int .i64 (a8f c l ch).1,.int .i64 (a8f c l ch).2]):=by
 refine enter Tryz.func244 Tryz.call244 rfl Tryz.ntmps244 rfl (fun w0=>?_);refine go 3 ?_;refine a0B _ rfl rfl rfl (fun g3=>?_);refine go 11 ?_;refine a0d (b9p _ vc c hvc hsc _ l hv hsl _ ch hw 0) rfl rfl ?_;refine go 3 ?_;refine cb rfl (fun h12 p12=>?_) (fun h12 p12=>?_)
 ·refine go 8 ?_;refine a1F rfl rfl rfl ?_;exact q_i (by rw[a8f,if_pos (by simpa using h12)])
 ·obtain⟨hlc,hgd⟩:=a2g (c:=c) (l:=l) (ch:=ch) (n:=0) (by simpa using h12);refine go 8 ?_;refine a0O (b5t _ vc c hvc hsc _ l hv hl hsl hgd _ ch hw hlc 40001) rfl rfl (fun v16 I16 j16 q16=>?_);obtain rfl:=q16;refine go 7 ?_;refine a1F rfl rfl rfl ?_;exact q_i (by rw[a8f,if_neg (by simp[show a1E c l ch 0=true by simpa using h12])];rfl)
theorem d0U (I:IMap) (vc:Value) (c:List Kind) (hvc:RdS I vc c) (hsc:SmC c) (v:Value) (l:List Rep) (hv:RdS I v l) (hl:l.length≤1000000) (hsl:∀r∈l,∀e∈r.options,SmE e) (w:Value) (ch:List Int) (hw:RdS I w ch) :
    FnI Tryz.prog 193 #[.agg #[vc],v,w] I (fun u J=>u = .bool (isF c l ch)):=by
 refine enter Tryz.func193 Tryz.call193 rfl Tryz.ntmps193 rfl (fun w0=>?_);refine go 3 ?_;refine a0B _ rfl rfl rfl (fun g3=>?_);refine go 9 ?_;refine a0O (c5X _ vc c hvc hsc _ l hv hl hsl _ ch hw) rfl rfl (fun v13 I13 j13 q13=>?_);obtain rfl:=q13;refine go 15 ?_;refine a0s rfl rfl ?_;exact q_i rfl
theorem c5Y (I:IMap) (vc:Value) (c:List Kind) (hvc:RdS I vc c) (hsc:SmC c) (v:Value) (l:List Rep) (hv:RdS I v l) (hl:l.length≤1000000) (hsl:∀r∈l,∀e∈r.options,SmE e) (w:Value) (ch:List Int) (hw:RdS I w ch) :
    FnI Tryz.prog 192 #[.agg #[vc],v,w] I (fun u J=>u = .bool (a6T c l ch)):=by
 have hv0:=hv
 have hw0:=hw
 obtain⟨A,c0,rfl,_,_,_⟩:=hv0;obtain⟨B,c1,rfl,_,_,_⟩:=hw0;refine enter Tryz.func192 Tryz.call192 rfl Tryz.ntmps192 rfl (fun w0=>?_);refine go 3 ?_;refine a0B _ rfl rfl rfl (fun g3=>?_);refine go 10 ?_;refine a0d (b9p _ vc c hvc hsc _ l hv hsl _ ch hw (-1)) rfl rfl ?_;refine go 3 ?_;refine cb rfl (fun h15 p15=>?_) (fun h15 p15=>?_)
 ·refine go 7 ?_;refine a0s rfl rfl ?_;exact q_i (by rw[a6T,if_pos (by simpa using h15)])
 ·obtain⟨hlc,hgd⟩:=a2g (c:=c) (l:=l) (ch:=ch) (n:=(-1)) (by simpa using h15);refine go 5 ?_;refine a0j he rfl (fun g7=>?_);refine go 1 ?_;refine a0p _ he rfl rfl rfl rfl rfl rfl ?_;refine go 8 ?_;refine a0O (c8r _ A B _ c0 _ c1) rfl rfl (fun v18 I18 j18 q18=>?_)
  have hvc:=hvc.le j18
  have hv:=hv.le j18
  have hw:=hw.le j18
  obtain⟨g2,g5,rfl,c2,c3⟩:=q18;refine go 3 ?_;refine a6s (σ:=Int) (ps:=[19]) 40001 (fun m=>[.blk g7 3 [ci m]]) (fun pre I m=>m=a5g pre) (fun pre I m cd=>False) rfl Tryz.call300 (c8i _ _ l hv _ ch hw hlc g2 g5 c2 c3) (fun I vs x h=>by rw[h];rfl) rfl (fun pre I I' s hI h=>h) (fun _ _ _ _ _ _ h=>h) (rfl) rfl ?_ ?_ ?_
  ·rintro r E1 pre x vs I1 m hI1 rfl rfl hpf;refine c7p ?_;refine go 3 ?_;refine a6A ?_;refine go 4 ?_;refine o_v rfl (c5f rfl rfl) ?_;refine go 1 ?_;refine a0o ?_;refine a0p _ he rfl rfl rfl rfl rfl rfl ?_;refine go 2 ?_;refine a0o ?_;refine a0o ?_;exact a9H (_) (hI1) ((by rw[b7n])) rfl
  ·rintro D pre I1 m hI1 hfull rfl;refine c7o ?_;refine go 9 ?_;refine a0O (b5t _ vc c (hvc.le hI1) hsc _ l (hv.le hI1) hl hsl hgd _ ch (hw.le hI1) hlc (a5g pre)) rfl rfl (fun v28 I28 j28 q28=>?_);obtain rfl:=q28;refine go 15 ?_;refine a5m ?_;refine a0s rfl rfl ?_;exact q_i (by rw[a6T,if_neg (by simp[show a1E c l ch (-1)=true by simpa using h15]),hfull])
  ·rintro D pre I1 m cd hI1 hpart h;exact h.elim
end Go.Proofs.YtdapmfkbpnjkmaaGreat
set_option linter.all false
namespace Go.Sx
open Go
section
variable {P:Program} {n:Sz} {E:Ent} {I:IMap} {L:LL} {H:List Res}
variable {d ty:Nat} {pos:String} {af:Array Edge} {tx tyy:Nat} {x y:Operand}
end
def b4y (ch:List Int) (a:Nat):List Int:=ch.mapIdx fun i k=>if a.testBit i=true then -1 else k
theorem b3b (ch:List Int) (a:Nat):(b4y ch a).length=ch.length:=by simp[b4y]
theorem b4n {l:List Evt} {e:Evt} {m i:Nat} (hq:∀j x,j<m→l[j]? = some x→decide (x=e)=false) (hi:i≤m):hit id (l.take i) e=false:=by
 rw[a9p,List.any_eq_false];intro x hx;obtain⟨j,hj,rfl⟩:=List.getElem_of_mem hx;rw[List.length_take]at hj
 rw[List.getElem_take]
 simpa using hq j _ (by omega) (List.getElem?_eq_getElem (by omega))
theorem b2N {l:List Evt} {e:Evt} {m i:Nat} (hm:m<i) (hl:m<l.length) (h:decide (l[m]=e)=true):hit id (l.take i) e=true:=by
 rw[a9p,List.any_eq_true];exact⟨l[m],List.mem_iff_getElem.2 ⟨m,by rw[List.length_take];omega,List.getElem_take⟩,h⟩
def c4J (l:List Rep) (n:Int):Bool:=a3h (fun _ r=>c2o r.options 6) l l.length&&decide (((l.length:Nat):Int)≤n)
def c1J (c:List Kind) (l:List Rep):Bool:=a1g c&&a3h (fun _ r=>a0w r) l l.length
theorem b4i {l:List Rep} {n:Int} (h:c4J l n=true):(∀r∈l,∀e∈r.options,SmE e)∧((l.length:Nat):Int)≤n:=by
 simp only[c4J,Bool.and_eq_true,decide_eq_true_eq]at h
 refine⟨fun r hr=>?_,h.2⟩;obtain⟨_,h1⟩:=a3X h.1 hr;exact (c5S h1).1
end Go.Sx
namespace Go.Proofs.YtdapmfkbpnjkmaaGreat
open Go Go.Sx
set_option linter.all false
set_option maxRecDepth 20000
set_option maxHeartbeats 4000000
theorem a6e (I:IMap) (r:Rep) (S:Option Addr) (d:Nat) (hr:RdS I (.slice S r.options.length d) r.options) (hs:∀e∈r.options,SmE e) :
    FnV Tryz.prog 46 #[.agg (r.cells (.slice S r.options.length d)).toArray] I (.bool (a0w r)):=by
 have hSA:RdA I S r.options:=(by obtain⟨_,_,e,h,_⟩:=hr;cases e;exact h)
 have hl4:d≤9223372036854775807:=(by obtain⟨_,_,e,h,h1,h2⟩:=hr;cases e;exact h2)
 have hl5:=hr.lenLe
 refine enter Tryz.func46 Tryz.call46 rfl Tryz.ntmps46 rfl (fun w0=>?_);refine go 3 ?_;refine a0B _ rfl rfl rfl (fun g1=>?_);refine go 5 ?_;refine a2I (I':=I) (L':=[(1,.pointer (some ⟨g1,0,none⟩)),(14,.bool (decide (((r.options.length:Nat):Int)<1)||decide ((4:Int)<(r.options.length:Nat))))]) (H':=[.blk g1 64 (r.cells (.slice S r.options.length d))]) ?_ ?_
 ·refine go 6 ?_;refine sxb 9 rfl (fun h9 p9=>?_) (fun h9 p9=>?_)
  ·refine go 7 ?_;exact a0L ⟨rfl,(congrArg (fun b=>some (Value.bool b)) (by simp only[h9,bS])),trivial⟩ rfl rfl
  ·refine go 7 ?_;exact a0L ⟨rfl,(congrArg (fun b=>some (Value.bool b)) (by simp only[h9,bS])),trivial⟩ rfl rfl
 ·refine cb rfl (fun h14 p14=>?_) (fun h14 p14=>?_)
  ·refine go 7 ?_;refine a0s rfl rfl ?_;exact q_v (congrArg Value.bool (by simp only[a0w,show decide (((r.options.length:Nat):Int)=0)=decide (((r.options.length:Nat):Int)<1) from by rw[decide_eq_decide];omega,h14];rfl))
  ·refine go 9 ?_
   refine a0Q (α:=Nat) 0 (fun i=>I)
    (fun i=>[(1,.pointer (some ⟨g1,0,none⟩)),(3,.int .i64 ((i:Nat):Int))])
    (fun i=>[.blk g1 64 (r.cells (.slice S r.options.length d))])
    (fun i=>i≤r.options.length∧a3h a4F r.options i=true)
    (fun i=>r.options.length-i) ⟨Nat.zero_le _,rfl⟩ rfl sb rfl ?_
   intro i ⟨hi,hn⟩;refine go 10 ?_;refine cb rfl (fun h19 p19=>?_) (fun h19 p19=>?_)
   ·have hlt:i<r.options.length:=by omega
    refine go 10 ?_;obtain⟨b25,o25,w25,e25,c25,r25⟩:=RdA.at_ hSA (i:=i) hlt;obtain rfl:=r25;refine o_v rfl (a0h he rfl rfl e25 (i) (by omega) hlt) ?_;refine o_v rfl (a0G he rfl c25 rfl) ?_;refine go 1 ?_;refine a0d (a7Q _ r.options[i] (hs _ (List.getElem_mem hlt))) rfl rfl ?_;refine go 3 ?_;refine cb rfl (fun h28 p28=>?_) (fun h28 p28=>?_)
    ·refine go 12 ?_;refine a0s rfl rfl ?_;exact q_v (congrArg Value.bool (by simp only[a0w,show decide (((r.options.length:Nat):Int)=0)=decide (((r.options.length:Nat):Int)<1) from by rw[decide_eq_decide];omega,h14,a1j hlt (show a4F (r.options.take i) r.options[i]=false by simp only[a4F,show a1t r.options[i]=false by simpa using h28,bS]),bS]))
    ·refine go 8 ?_
     refine a0Q (α:=Nat) 0 (fun m=>I)
      (fun m=>[(1,.pointer (some ⟨g1,0,none⟩)),(3,.int .i64 ((i:Nat):Int)),(4,.int .i64 ((m:Nat):Int))])
      (fun m=>[.blk g1 64 (r.cells (.slice S r.options.length d))])
      (fun m=>m≤i∧∀j x,j<m→r.options[j]? = some x→decide (x=r.options[i])=false)
      (fun m=>i-m) ⟨Nat.zero_le _,fun j x hj=>absurd hj (Nat.not_lt_zero j)⟩ rfl sb rfl ?_
     intro m ⟨hmm,hq⟩;refine go 8 ?_;refine cb rfl (fun h31 p31=>?_) (fun h31 p31=>?_)
     ·have hlm:m<r.options.length:=by omega
      refine go 5 ?_;refine a0F T.mixed ?_;refine a0e 0 rfl rfl (by kernel_rfl) rfl (.refl _) rfl (a0g he rfl) ?_;refine a0e 1 rfl rfl (by kernel_rfl) rfl (.refl _) rfl (a2H m0 he rfl rfl) ?_;refine a0e 2 rfl rfl (by kernel_rfl) rfl (.refl _) rfl (a0a rfl) ?_;obtain⟨b37,o37,w37,e37,c37,r37⟩:=RdA.at_ hSA (i:=m) hlm;obtain rfl:=r37;refine a0e 3 rfl rfl (by kernel_rfl) rfl (.refl _) rfl (a0h he rfl rfl e37 (m) (by omega) hlm) ?_;refine a0e 4 rfl rfl (by kernel_rfl) rfl (.refl _) rfl (a0G he rfl c37 rfl) ?_;refine a0e 5 rfl rfl (by kernel_rfl) rfl (.refl _) rfl (a0g he rfl) ?_;refine a0e 6 rfl rfl (by kernel_rfl) rfl (.refl _) rfl (a2H m0 he rfl rfl) ?_;refine a0e 7 rfl rfl (by kernel_rfl) rfl (.refl _) rfl (a0a rfl) ?_;obtain⟨b42,o42,w42,e42,c42,r42⟩:=RdA.at_ hSA (i:=i) hlt;obtain rfl:=r42;refine a0e 8 rfl rfl (by kernel_rfl) rfl (.refl _) rfl (a0h he rfl rfl e42 (i) (by omega) hlt) ?_;refine a0e 9 rfl rfl (by kernel_rfl) rfl (.refl _) rfl (a0G he rfl c42 rfl) ?_;refine a0e 10 rfl rfl (by kernel_rfl) rfl (.refl _) rfl (a9T T.eqg_96 (b1t r.options[m] r.options[i]) rfl rfl) ?_;refine a0n (by kernel_rfl) ?_;refine go 1 ?_;refine cb rfl (fun h44 p44=>?_) (fun h44 p44=>?_)
      ·refine go 15 ?_;refine a0s rfl rfl ?_;exact q_v (congrArg Value.bool (by simp only[a0w,show decide (((r.options.length:Nat):Int)=0)=decide (((r.options.length:Nat):Int)<1) from by rw[decide_eq_decide];omega,h14,a1j hlt (show a4F (r.options.take i) r.options[i]=false by simp only[a4F,b2N (show m<i by omega) hlm h44,bS]),bS]))
      ·refine go 9 ?_;exact a0M (m+1) ⟨by omega,a2V (p:=fun x=>decide (x=r.options[i])) hq (show m<r.options.length by omega) h44⟩ (by omega) rfl sb rfl
     ·refine go 12 ?_;exact a0M (i+1) ⟨by omega,a1v hn hlt (by simp only[a4F,b4n hq (show i≤m by omega),p28,bS])⟩ (by omega) rfl sb rfl
   ·refine go 11 ?_;refine a0s rfl rfl ?_
    have e:i=r.options.length:=(by omega)
    subst e;exact q_v (congrArg Value.bool (by simp only[a0w,hn,show decide (((r.options.length:Nat):Int)=0)=decide (((r.options.length:Nat):Int)<1) from by rw[decide_eq_decide];omega,h14];rfl))
theorem a4V (I:IMap) (r:Rep) (S:Option Addr) (d:Nat) (hr:RdS I (.slice S r.options.length d) r.options) (hs:∀e∈r.options,SmE e) :
    FnV Tryz.prog 172 #[.agg (r.cells (.slice S r.options.length d)).toArray] I (.int .i64 (chs r)):=by
 have hl5:=hr.lenLe
 refine enter Tryz.func172 Tryz.call172 rfl Tryz.ntmps172 rfl (fun w0=>?_);refine go 3 ?_;refine a0B _ rfl rfl rfl (fun g1=>?_);refine go 8 ?_;refine a0d (a6e _ r S d hr hs) rfl rfl ?_;refine go 3 ?_;refine cb rfl (fun h5 p5=>?_) (fun h5 p5=>?_)
 ·refine go 7 ?_;refine a0s rfl rfl ?_;exact q_v (congrArg (Value.int .i64) (by simp only[chs,show a0w r=false by simpa using h5,Bool.true_eq_false,Bool.false_eq_true,if_true,if_false]))
 ·have hl4:=a2S (r:=r) (by simpa using h5)
  refine go 9 ?_;refine cb rfl (fun h7 p7=>?_) (fun h7 p7=>?_)
  ·refine go 5 ?_;refine o_v rfl (a2d rfl rfl ⟨by omega,by have:=hl4;omega⟩) ?_;refine go 5 ?_;refine a0s rfl rfl ?_;exact q_v (congrArg (Value.int .i64) (by simp only[chs,show a0w r=true by simpa using h5,h7,Bool.true_eq_false,Bool.false_eq_true,if_true,if_false]))
  ·refine go 11 ?_;refine a0s rfl rfl ?_;exact q_v (congrArg (Value.int .i64) (by simp only[chs,show a0w r=true by simpa using h5,h7,Bool.true_eq_false,Bool.false_eq_true,if_true,if_false]))
theorem c3r (I:IMap) (v:Value) (l:List Rep) (hv:RdS I v l) (n:Int) :
    FnV Tryz.prog 104 #[v,.int .i64 n] I (.bool (c4J l n)):=by
 obtain⟨A,c0,rfl,hA,hc,hm⟩:=hv;refine enter Tryz.func104 Tryz.call104 rfl Tryz.ntmps104 rfl (fun w0=>?_);refine go 12 ?_
 refine a0Q (α:=Nat) 0 (fun i=>I)
  (fun i=>[(0,.slice A l.length c0),(1,.int .i64 n),(5,.int .i64 ((i:Nat):Int))])
  (fun i=>[])
  (fun i=>i≤l.length∧a3h (fun _ r=>c2o r.options 6) l i=true)
  (fun i=>l.length-i) ⟨Nat.zero_le _,rfl⟩ rfl sb rfl ?_
 intro i ⟨hi,hn⟩;refine go 8 ?_;refine sxb 10 rfl (fun h10 p10=>?_) (fun h10 p10=>?_)
 ·have hlt:i<l.length:=by omega
  refine go 7 ?_;refine cb rfl (fun h15 p15=>?_) (fun h15 p15=>?_)
  ·have hlt:i<l.length:=by omega
   refine go 8 ?_;obtain⟨b20,o20,w20,e20,c20,r20⟩:=RdA.at_ hA (i:=i) hlt;obtain⟨q20,rfl,S20,d20,rfl,hS20,hd20,hm20⟩:=r20;refine o_v rfl (a0h he rfl rfl e20 (i) (by omega) hlt) ?_;refine go 1 ?_;refine o_v rfl (a0K he rfl (c20 0 _ rfl)) ?_;refine go 1 ?_;refine a0d (c6R _ _ l[i].options ⟨_,_,rfl,hS20,hd20,hm20⟩ 6) rfl rfl ?_;refine go 3 ?_;refine cb rfl (fun h24 p24=>?_) (fun h24 p24=>?_)
   ·refine go 11 ?_;refine a0s rfl rfl ?_;exact q_v (congrArg Value.bool (by simp only[c4J,a1j (f:=fun _ r=>c2o r.options 6) hlt (by simpa using h24),bS]))
   ·refine go 9 ?_;exact a0M (i+1) ⟨by omega,a1v hn hlt (by simpa using h24)⟩ (by omega) rfl sb rfl
  ·refine go 15 ?_;refine a0s rfl rfl ?_;exact q_v (congrArg Value.bool (by rw[c4J,show decide (((l.length:Nat):Int)≤n)=false from decide_eq_false (by omega)];simp))
 ·refine go 7 ?_;refine a0T rfl ?_;refine go 15 ?_;refine a0s rfl rfl ?_
  have e:i=l.length:=(by omega)
  subst e;exact q_v (congrArg Value.bool (by simp only[c4J,hn,bS]))
end Go.Proofs.YtdapmfkbpnjkmaaGreat
set_option linter.all false
namespace Go.Sx
open Go
def okK (r:Rep) (k:Int):Bool:=!(decide (k<0)||decide (chs r≤k))
def c4H (l:List Rep) (ch:List Int) (i:Nat):Option Evt:=(at2 (fun r k=>r.options[k.toNat]?) l ch i).join
def a2U (l:List Rep) (ch:List Int) (n:Nat):List Evt:=(List.range n).filterMap (c4H l ch)
def a1L (l:List Rep) (ch:List Int):List Evt×Int:=if (decide (((l.length:Nat):Int)=(ch.length:Nat))&&a6F okK l ch l.length)=true then (a2U l ch l.length,0) else ([],1)
theorem b1z (l:List Rep) (ch:List Int) (i:Nat):a2U l ch (i+1)=a2U l ch i++(c4H l ch i).toList:=by
 rw[a2U,List.range_succ,List.filterMap_append,a2U]
 congr 1
theorem b1x {l:List Rep} {ch:List Int} {i:Nat} (h1:i<l.length) (h2:i<ch.length):c4H l ch i=l[i].options[ch[i].toNat]?:=by
 rw[c4H,a2K h1 h2];rfl
theorem c4I {l:List Rep} {ch:List Int} {i:Nat} {out:List Evt} (h1:i<l.length) (h2:i<ch.length) (hw:a2U l ch i=out) (h:ch[i]=(l[i].options.length:Nat)):a2U l ch (i+1)=out:=by
 rw[b1z,hw,b1x h1 h2,List.getElem?_eq_none (by omega)];simp
theorem b8Y {l:List Rep} {ch:List Int} {i:Nat} {out:List Evt} (h1:i<l.length) (h2:i<ch.length) (hw:a2U l ch i=out) (hk:ch[i].toNat<l[i].options.length):a2U l ch (i+1)=out++[l[i].options[ch[i].toNat]]:=by
 rw[b1z,hw,b1x h1 h2,List.getElem?_eq_getElem hk];rfl
theorem b1y (l:List Rep) (ch:List Int) (i:Nat):(a2U l ch i).length≤i:=by
 unfold a2U;exact Nat.le_trans (List.length_filterMap_le _ _) (by simp)
theorem c4F (r:Rep):chs r≤(r.options.length:Nat)+1:=by
 unfold chs
 split
 ·omega
 ·split<;>omega
theorem b3j {l:List Rep} {ch:List Int} (h:¬((l.length:Nat):Int)=(ch.length:Nat)):a1L l ch=([],1):=by
 simp[a1L,h]
theorem a6c {l:List Rep} {ch:List Int} {i:Nat} (h1:i<l.length) (h2:i<ch.length) (h:okK l[i] ch[i]=false):a1L l ch=([],1):=by
 simp[a1L,a6G h1 h1 h2 h]
theorem b3k {l:List Rep} {ch:List Int} (hl:((l.length:Nat):Int)=(ch.length:Nat)) (h:a6F okK l ch l.length=true):a1L l ch=(a2U l ch l.length,0):=by
 simp[a1L,hl,h]
end Go.Sx
set_option linter.all false
namespace Go.Sx
open Go
section
variable {P:Program} {n:Sz} {E:Ent} {I:IMap} {L:LL} {H:List Res} {K:Act→World→Prop}
variable {α:Type} [Enc α]
theorem c7s {v:Value} {e k m:Nat} {xs:List Value} {l:List α} (hF:Flat I xs l) (hk:k=Enc.k α) (hm:m=l.length) (h0:0<l.length)
  (h:∀g cap rest xss,v = .slice (some ⟨g,0,none⟩) m cap→FlatC I xss l→Uk k rest→m+rest.length=cap→cap≤maxLen→SX n E I L (.blk g e (xss++rest).flatten::H) K):SX n E I L (.row v e k m xs::H) K:=by
 obtain⟨xss,rfl,hC⟩:=FlatC.of hF;refine a8n (xss:=xss) (m:=m) (by rw[hk];exact hC.uk) (by rw[hC.len,hm]) (fun h1 _=>absurd h1 (by omega)) (fun g cap rest hv hR hc hl=>h g cap rest xss hv hC hR hc hl)
theorem b3H {g e k m cap i:Nat} {xss rest:List (List Value)} {c:List Value} {l:List α} (x:α) (hC:FlatC I xss l) (hR:Uk k rest) (hk:k=Enc.k α) (hm:m=l.length) (hi:i<l.length) (hc:m+rest.length=cap) (hl:cap≤maxLen) (hx:Enc.rd I c x)
  (h:∀ws,Flat I ws (l.set i x)→SX n E I L (.row (.slice (some ⟨g,0,none⟩) m cap) e k m ws::H) K):SX n E I L (.blk g e ((xss++rest).set i c).flatten::H) K:=by
 have hlen:i<xss.length:=by rw[hC.len];exact hi
 rw[List.set_append_left _ _ hlen]
 have hC':=hC.set hx i
 refine a2G (by rw[hk];exact hC'.uk) hR (by rw[hC'.len,List.length_set,hm]) hc hl (h _ hC'.flat)
theorem a2Q {v:Value} {e k m:Nat} {xs:List Value} (h:∀A c,v = .slice A m c→SX n E I L (.row v e k m xs::H) K):SX n E I L (.row v e k m xs::H) K:=by
 refine b4Y (p:=∃h,IsRow h v e k m xs) (fun w mm=>⟨_,mm.holds _ (List.mem_cons_self ..)⟩) fun ⟨_,_,hr⟩=>?_
 rcases hr with ⟨rfl,rfl⟩|⟨g,cap,cur,rfl,_⟩
 ·exact h _ _ rfl
 ·exact h _ _ rfl
end
section
variable {α:Type} [Enc α] {I:IMap} {A:Option Addr} {m c:Nat} {l:List α}
theorem RdS.toA (h:RdS I (.slice A m c) l):RdA I A l:=by
 obtain⟨_,_,e,h,_⟩:=h
 injection e with e1 e2 e3
 subst e1;exact h
theorem RdS.eqL (h:RdS I (.slice A m c) l):m=l.length∧m≤c∧c≤9223372036854775807:=by
 obtain⟨_,_,e,_,h1,h2⟩:=h
 injection e with e1 e2 e3
 subst e3;exact⟨e2,by omega,h2⟩
theorem RdS.takeM (h:RdS I (.slice A m c) l) (q:Nat) (hq:q≤l.length):RdS I (.slice A q c) (l.take q):=by
 obtain rfl:=h.eqL.1;exact h.take q hq
theorem RdS.dropM (h:RdS I (.slice A m c) l) (q:Nat) (hq:q≤l.length):RdS I (.slice (c1H A c q (Enc.k α)) (m-q) (c-q)) (l.drop q):=by
 obtain rfl:=h.eqL.1;exact h.drop q hq
end
section
variable {P:Program} {b:Frame} {a:Act} {k:List Item} {cs:List Frame} {w:World} {Q:Exit→Act→World→Prop} {F:Fence}
theorem a3S {c:Code}:step P (lone (b.atR a (.code (.scope c)::k)) cs w) = .next (lone (b.atR a (.code c :: .inScope c::k)) cs w):=
 step_lone_go (by simp[stepG,stepG.exec,Frame.atR])
theorem b2p {c:Code}:step P (lone (b.atR a (.inScope c::k)) cs w) = .next (lone (b.atR a k) cs w):=
 step_lone_go (by simp[stepG,stepG.exec,Frame.atR])
theorem b8e {n:Nat} {c:Code} (h:c.wpIn F n P (Exit.noGoto Q) a w):(Code.scope c).wpIn F n P Q a w:=by
 intro b k cs hro hb hr
 have h0:(lone (b.atR a (.code (.scope c)::k)) cs w).fenced P F:=fenced_calm hb hr rfl
 obtain⟨e,a₁,w₁,hq,harr⟩:=h b (.inScope c::k) cs hro hb hr
 cases e with
 |normal=>exact⟨.normal,a₁,w₁,hq,.head h0 a3S (StepsIn.trans harr (.one (fenced_calm hb hr rfl) b2p))⟩
 |exit id=>
  have hx:exitTo id (.inScope c::k)=exitTo id k:=by simp[exitTo]
  exact⟨.exit id,a₁,w₁,hq,fun k' hk=>.head h0 a3S (harr.1 k' (by rw[hx];exact hk)),
   fun hr' hk=>let ⟨k₁,h1,h2⟩:=harr.2 hr' (by rw[hx];exact hk);⟨k₁,h1,.head h0 a3S h2⟩⟩
 |goto l=>exact hq.elim
 |ret=>exact⟨_,a₁,w₁,hq,.of_steps (.one h0 a3S) harr⟩
 |panic ch=>exact⟨_,a₁,w₁,hq,.of_steps (.one h0 a3S) harr⟩
 |outgrown=>exact⟨_,a₁,w₁,hq,.of_steps (.one h0 a3S) harr⟩
end
section
variable {P:Program} {ρ:Option Nat} {n:Sz} {E:Ent} {I:IMap} {L:LL} {H:List Res} {Q:Exit→Act→World→Prop}
theorem c5z {c:Code} (h:SX n E I L H (c.wq ρ P (Exit.noGoto Q))):SX n E I L H ((Code.scope c).wq ρ P Q):=fun a w s m=>b8e (h a w s m)
theorem c5w {l:Nat} (h:SX n E I L H (Q .normal)):SX n E I L H ((Code.label l).wq ρ P Q):=fun a w s m=>wpIn_label (h a w s m)
theorem a8O (h:SX n E I L H (Q .ret)):SX n E I L H (Exit.noGoto Q .ret):=h
end
end Go.Sx
namespace Go.Proofs.YtdapmfkbpnjkmaaGreat
open Go Go.Sx
set_option linter.all false
set_option maxRecDepth 20000
set_option maxHeartbeats 4000000
theorem c0B (I:IMap) (v:Value) (l:List Rep) (hv:RdS I v l) (hl:l.length≤1000000) (hsl:∀r∈l,∀e∈r.options,SmE e) (w:Value) (ch:List Int) (hw:RdS I w ch) :
    FnI Tryz.prog 43 #[v,w] I (fun u J=>∃z,u = .tuple #[z,.int .i64 (a1L l ch).2]∧RdS J z (a1L l ch).1):=by
 obtain⟨A,c0,rfl,hA,hc,hm⟩:=hv;obtain⟨B,c1,rfl,hB,hc1,hm1⟩:=hw;refine enter Tryz.func43 Tryz.call43 rfl Tryz.ntmps43 rfl (fun w0=>?_);refine go 6 ?_;refine c5z ?_;refine go 10 ?_;refine cb rfl (fun h14 p14=>?_) (fun h14 p14=>?_)
 ·refine go 8 ?_;refine a8O ?_;refine a1F rfl rfl rfl ?_;exact q_i ⟨_,by rw[b3j (by simpa using h14)],by rw[b3j (by simpa using h14)];exact RdS.nil'⟩
 ·have hle:((l.length:Nat):Int)=(ch.length:Nat):=by simpa using h14
  refine go 4 ?_;refine a1f 96 14 ?_;refine go 4 ?_;refine c5w ?_;refine go 10 ?_
  refine a3B ((0:Nat)) (_) ([]) ([]) (fun i v6 xs out=>I)
   (fun i v6 xs out=>[(1,.slice B ch.length c1),(6,v6),(15,.slice A l.length c0),(16,.int .i64 ((l.length:Nat):Int)),(17,.int .i64 ((i:Nat):Int))])
   (fun i v6 xs out=>[.row v6 96 14 out.length xs])
   (fun i v6 xs out=>i≤l.length∧a6F okK l ch i=true∧a2U l ch i=out∧Flat I xs out)
   (fun i v6 xs out=>l.length-i) ⟨Nat.zero_le _,rfl,rfl,.nil⟩ rfl sb rfl ?_
  intro i v6 xs out ⟨hi,hok,hev,hF⟩
  have hol:out.length≤i:=by rw[←hev];exact b1y _ _ _
  refine go 6 ?_;refine cb rfl (fun h18 p18=>?_) (fun h18 p18=>?_)
  ·have hlt:i<l.length:=by omega
   have hlt2:i<ch.length:=by omega
   refine go 7 ?_;obtain⟨b20,o20,w20,e20,c20,r20⟩:=RdA.at_ hA (i:=i) (by omega);obtain⟨q20,rfl,S20,d20,rfl,hS20,hd20,hm20⟩:=r20;refine o_v rfl (a0h he rfl rfl e20 (i) (by omega) (by omega)) ?_;refine o_v rfl (a0G he rfl c20 rfl) ?_;refine go 1 ?_;refine a0j he rfl (fun g8=>?_);refine go 2 ?_;refine a0p _ he rfl rfl rfl rfl rfl rfl ?_;refine go 6 ?_;obtain⟨b24,o24,w24,e24,c24,r24⟩:=RdA.at_ hB (i:=i) (by omega);obtain rfl:=r24;refine o_v rfl (a0h he rfl rfl e24 (i) (by omega) (by omega)) ?_;refine o_v rfl (a0K he rfl (c24 0 _ rfl)) ?_;refine go 9 ?_;refine sxb 28 rfl (fun h28 p28=>?_) (fun h28 p28=>?_)
   ·have hbad:okK l[i] ch[i]=false:=by simp[okK,h28]
    refine go 7 ?_;refine a2M rfl ?_;refine go 13 ?_;refine a8O ?_;refine a1F rfl rfl rfl ?_;exact q_i ⟨_,by rw[a6c hlt hlt2 hbad],by rw[a6c hlt hlt2 hbad];exact RdS.nil'⟩
   ·refine go 3 ?_;refine a0R rfl rfl h28 (a0d (a5n _ l[i] S20 d20 ⟨_,_,rfl,hS20,hd20,hm20⟩ (hsl _ (List.getElem_mem hlt))) rfl rfl ?_);refine go 4 ?_;refine cb rfl (fun h33 p33=>?_) (fun h33 p33=>?_)
    ·have hbad:okK l[i] ch[i]=false:=by simp_all [okK]
     refine go 13 ?_;refine a8O ?_;refine a1F rfl rfl rfl ?_;exact q_i ⟨_,by rw[a6c hlt hlt2 hbad],by rw[a6c hlt hlt2 hbad];exact RdS.nil'⟩
    ·have hgood:okK l[i] ch[i]=true:=by simp_all [okK]
     have hcl:=c4F l[i]
     refine go 12 ?_;refine cb rfl (fun h38 p38=>?_) (fun h38 p38=>?_)
     ·refine go 9 ?_;refine a0b ?_;exact a1N (i+1) (_) (_) (out) ⟨by omega,a5V hok hlt hlt2 hgood,c4I hlt hlt2 hev (by simpa using h38),hF⟩ (by omega) rfl sb (by first|rfl|(simp only[List.length_append,List.length_singleton];rfl)|simp only[List.length_append,List.length_singleton])
     ·have hk:ch[i].toNat<l[i].options.length:=by simp_all [okK];omega
      refine go 7 ?_;obtain⟨b43,o43,w43,e43,c43,r43⟩:=RdA.at_ hS20 (i:=ch[i].toNat) hk;obtain rfl:=r43;refine o_v rfl (a0h he rfl rfl e43 (ch[i].toNat) (by omega) hk) ?_;refine o_v rfl (a0G he rfl c43 rfl) ?_;refine go 1 ?_;refine a0c he he rfl rfl rfl rfl rfl rfl rfl (fun v45=>?_);refine go 1 ?_;refine a0o ?_;refine a0v he he rfl rfl rfl rfl rfl (by omega) (by omega) rfl (fun v46=>?_);refine go 9 ?_;refine a0f ?_;refine a0b ?_;refine a0f ?_;refine a0b ?_;exact a1N (i+1) (_) (_) (out++[l[i].options[ch[i].toNat]]) ⟨by omega,a5V hok hlt hlt2 hgood,b8Y hlt hlt2 hev hk,hF.append (.one rfl)⟩ (by omega) rfl sb (by first|rfl|(simp only[List.length_append,List.length_singleton];rfl)|simp only[List.length_append,List.length_singleton])
  ·refine go 7 ?_;obtain rfl:i=l.length:=by omega
   refine a0l (l:=out) rfl rfl (hF) (fun Ip jp Rp=>?_);refine go 6 ?_;refine a8O ?_;refine a1F rfl rfl rfl ?_;exact q_i ⟨_,by rw[b3k hle hok],by rw[b3k hle hok,hev];exact Rp⟩
end Go.Proofs.YtdapmfkbpnjkmaaGreat
set_option linter.all false
namespace Go.Sx
open Go
def a2O (l:List ByteArray):List (List Value):=l.map fun s=>[.string s]
theorem a2P (l:List ByteArray):Uk 1 (a2O l):=fun c hc=>by obtain⟨e,_,rfl⟩:=List.mem_map.1 hc;rfl
theorem a4q (l:List ByteArray):(a2O l).length=l.length:=by simp[a2O]
theorem b2q (I:IMap):∀l:List ByteArray,FlatC I (a2O l) l
 | []=>.nil
 |s::r=>.cons rfl (b2q I r)
theorem c5a {I:IMap} {xss:List (List Value)} {l:List ByteArray} (h:FlatC I xss l):xss=a2O l:=by
 induction h with
 |nil=>rfl
 |cons h1 _ ih=>rw[ih];simp only[a2O,List.map_cons];rw[show _=_ from h1]
theorem a5U {l:List ByteArray} {rest:List (List Value)} {i:Nat} (h:i<l.length):(a2O l++rest)[i]? = some [.string l[i]]:=by
 rw[List.getElem?_append_left (by rw[a4q];exact h)];simp[a2O,h]
theorem a9O {l:List ByteArray} {rest:List (List Value)} {i:Nat} (h:i<l.length) (s:ByteArray):(a2O l++rest).set i [.string s]=a2O (l.set i s)++rest:=by
 rw[List.set_append_left _ _ (by rw[a4q];exact h)]
 congr 1
 simp[a2O,List.map_set]
def Pm (l m:List ByteArray):Prop:=m.length=l.length∧∀x,x∈m↔x∈l
theorem Pm.refl (l:List ByteArray):Pm l l:=⟨rfl,fun _=>Iff.rfl⟩
theorem Pm.swap {l m:List ByteArray} {i j:Nat} (h:Pm l m) (hi:i<m.length) (hj:j<m.length):Pm l ((m.set i m[j]).set j m[i]):=by
 have hp:((m.set i m[j]).set j m[i]).Perm m:=List.set_set_perm hi hj
 exact⟨by rw[List.length_set,List.length_set];exact h.1,fun x=>by rw[hp.mem_iff];exact h.2 x⟩
theorem c1a {l:List ByteArray} {rest:List (List Value)} {i j:Nat} (hi:i<l.length) (hj:j<l.length):((a2O l++rest).set i [.string l[j]]).set j [.string l[i]]=a2O ((l.set i l[j]).set j l[i])++rest:=by
 rw[a9O hi,a9O (by rw[List.length_set];exact hj)]
theorem b6C {l:List ByteArray} {rest:List (List Value)} {i j:Nat} (hi:i<l.length) (hj:j<l.length) (hij:i≠j):((a2O l++rest).set j [.string l[i]]).set i [.string l[j]]=a2O ((l.set i l[j]).set j l[i])++rest:=by
 rw[a9O hj,a9O (by rw[List.length_set];exact hi),List.set_comm _ _ hij.symm]
theorem a5Y {α:Type} {ls:List (List α)} {i:Nat} (h:i<ls.length):(ls.take (i+1)).flatten=(ls.take i).flatten++ls[i]:=by
 rw[←a0i h,List.flatten_append];simp
theorem a5X {α:Type} (ls:List (List α)) (i:Nat):((ls.take i).flatten).length≤ls.flatten.length:=by
 conv=>rhs;rw[←List.take_append_drop i ls,List.flatten_append,List.length_append]
 omega
theorem c5J (b:UInt8):IntKind.i64.wrap ((b.toNat:Nat):Int)=((b.toNat:Nat):Int):=by
 have:=b.toNat_lt;rw[IntKind.wrap_i64];omega
theorem c2a (b:UInt8):I64 (0+((b.toNat:Nat):Int)):=by
 have:=b.toNat_lt;exact⟨by omega,by omega⟩
def a5v (r:Rep) (ns:List ByteArray):Prop:=(∀x,x∈ns↔a0w r=true∧∃e∈r.options,x∈a1O e)∧ns.length≤8
theorem b0G {e:Evt} (h:a1t e=true):1≤(a1O e).length∧(a1O e).length≤2:=by
 unfold a1O;rw[if_neg (by rw[h];decide)]
 split<;>simp
theorem a7J:∀(l:List Evt),(∀e∈l,a1t e=true)→l.length≤(l.map a1O).flatten.length∧(l.map a1O).flatten.length≤2 * l.length
 | [],_=>by simp
 |e::r,h=>by
  have h1:=b0G (h e (by simp))
  have h2:=a7J r fun x hx=>h x (by simp[hx])
  simp only[List.map_cons,List.flatten_cons,List.length_append,List.length_cons]
  omega
theorem b2W {r:Rep} (hv:a0w r=true) {m:List ByteArray} (hm:∀x,x∈m↔x∈(r.options.map a1O).flatten) (hl:m.length≤(r.options.map a1O).flatten.length):a5v r m:=by
 have h1:=a7J r.options (a3a hv)
 have h2:=a2S hv
 refine⟨fun x=>?_,by omega⟩;rw[hm x,List.mem_flatten]
 constructor
 ·rintro⟨ns,hns,hx⟩;obtain⟨e,he,rfl⟩:=List.mem_map.1 hns;exact⟨hv,e,he,hx⟩
 ·rintro⟨_,e,he,hx⟩;exact⟨_,List.mem_map.2 ⟨e,he,rfl⟩,hx⟩
theorem b0H {r:Rep} (hv:a0w r=false):a5v r []:=⟨fun x=>by simp[hv],by simp⟩
structure Cpt (l B:List ByteArray) (k p:Nat):Prop where
 len:B.length=l.length
 kp:k+1≤p
 pl:p≤l.length
 tail:∀j,p-1≤j→B[j]? = l[j]?
 mem:∀x,x∈B.take k↔x∈l.take p
theorem Cpt.start {l:List ByteArray} {k:Nat} (hk:1≤k) (hl:k<l.length) (h:l[k]=l[k-1]):Cpt l l k (k+1):=by
 refine⟨rfl,Nat.le_refl _,hl,fun _ _=>rfl,fun x=>?_⟩;rw[←a0i hl]
 constructor
 ·intro hx;exact List.mem_append_left _ hx
 ·intro hx
  rcases List.mem_append.1 hx with hx|hx
  ·exact hx
  ·obtain rfl:=List.mem_singleton.1 hx;rw[h];exact List.mem_take_iff_getElem.2 ⟨k-1,by omega,rfl⟩
theorem Cpt.skip {l B:List ByteArray} {k p:Nat} (h:Cpt l B k p) (hp:p<l.length) (he:l[p]=l[p-1]) (h1:1≤p):Cpt l B k (p+1):=by
 refine⟨h.len,by have:=h.kp;omega,hp,fun j hj=>h.tail j (by omega),fun x=>?_⟩;rw[h.mem x,←a0i hp]
 constructor
 ·intro hx;exact List.mem_append_left _ hx
 ·intro hx
  rcases List.mem_append.1 hx with hx|hx
  ·exact hx
  ·obtain rfl:=List.mem_singleton.1 hx;rw[he];exact List.mem_take_iff_getElem.2 ⟨p-1,by omega,rfl⟩
theorem Cpt.keep {l B:List ByteArray} {k p:Nat} (h:Cpt l B k p) (hp:p<l.length):Cpt l (B.set k l[p]) (k+1) (p+1):=by
 have hkp:=h.kp
 have hkB:k<B.length:=by rw[h.len];omega
 refine⟨by rw[List.length_set];exact h.len,by omega,hp,fun j hj=>?_,fun x=>?_⟩
 ·rw[List.getElem?_set_ne (by omega)];exact h.tail j (by omega)
 ·rw[←a0i (l:=B.set k l[p]) (i:=k) (by rw[List.length_set];exact hkB),←a0i hp,List.mem_append,List.mem_append,List.getElem_set_self,List.take_set_of_le (Nat.le_refl _),h.mem x]
theorem Cpt.get {l B:List ByteArray} {k p j:Nat} (h:Cpt l B k p) (hj:p-1≤j) (hl:j<l.length) (hb:j<B.length):B[j]=l[j]:=by
 have:=h.tail j hj
 rw[List.getElem?_eq_getElem hl,List.getElem?_eq_getElem hb]at this
 exact Option.some.inj this
theorem Cpt.done {l B:List ByteArray} {k:Nat} (h:Cpt l B k l.length) (x:ByteArray):x∈B.take k↔x∈l:=by
 rw[h.mem x,List.take_length]
theorem c0Y {B:List ByteArray} {rest:List (List Value)} {zs:List Value} {k m:Nat} (hk:k+m=B.length):(a2O B++rest).take k++(List.replicate m zs++(a2O B++rest).drop (k+m))=a2O (B.take k)++(List.replicate m zs++rest):=by
 rw[List.take_append_of_le_length (by rw[a4q];omega),hk,←a4q B,List.drop_left,a2O,a2O,List.map_take]
section
variable {P:Program} {ρ:Option Nat} {n:Sz} {E:Ent} {I:IMap} {L:LL} {H:List Res} {Q:Exit→Act→World→Prop} {ops:Array Oper} {K:Act→World→Prop}
variable {d ty:Nat} {pos:String} {af:Array Edge} {x y z:Operand}
theorem a4m {g off tt t':Nat} {xss:List (List Value)} {v:Value} (hm:Res.blk g t' xss.flatten∈H) (hU:Uk 1 xss) (ht:tyK P tt=some (false,1)) (hx:ev L x=some (.pointer (some ⟨g,off,none⟩))) (i:Nat) (ho:off=i) (hi:xss[i]? = some [v]) :
  OV P n E I L H ⟨some d,.load tt x,ty,pos,af,none⟩ v:=a2H hm ht hx (by
 subst ho
 have h:=b9f hU hi
 rw[Nat.mul_one]at h
 have:=congrArg (fun l:List Value=>l[0]?) h
 simpa using this)
theorem c7A {ts:Nat} {s:ByteArray} {i:Int} {kd:IntKind} (ht:P.underlying ts=some .string) (hx:ev L x=some (.string s)) (hy:ev L y=some (.int kd i)) (q:Nat) (hq:i=(q:Int)) (hlt:q<s.size):OV P n E I L H ⟨some d,.index ts x y,ty,pos,af,none⟩ (.int .u8 ((s[q]!.toNat:Nat):Int)):=
 (fun a w st _=>by
  subst hq
  have hs:s[q]? = some (s[q]!):=by rw[getElem?_pos s q hlt,getElem!_pos s q hlt]
  simp[execOp,st.ev hx,st.ev hy,Instr.index,asIntOf,run_underlying ht,hs])
theorem b1S {tt tn e k bytes q:Nat} {kn kq:IntKind} {zs:List Value} (he:P.underlying tt=some (.slice e)) (hn:P.underlying tn=some (.int kn)) (hb:a2D P e=some (zs,k,bytes)) (hzs:zs.length=k) (hk0:Nat.blt 0 k=true)
  (hx:ev L x=some (.slice none 0 0)) (hy:ev L y=some (.int kq (q:Nat))) (hq:0<q) (hroom:q * bytes≤140737488355328) (hlen:q≤maxLen) (hd:Nat.blt d n.sz=true)
  (kk:∀g' r,q+r≤maxLen→SX n E I ((d,.slice (some ⟨g',0,none⟩) q (q+r))::L) (.blk g' e (List.replicate (q+r) zs).flatten::H) K) :
  SX n E I L H (one P ops Q ⟨some d,.call { callee:=.builtin .append,args:=#[x,y],argTypes:=#[tt,tn] },ty,pos,af,none⟩ K):=
 a7N (fun q':Nat×Nat=>.slice (some ⟨q'.1,0,none⟩) q (q+q'.2)) (fun _=>I) (fun q'=>.blk q'.1 e (List.replicate (q+q'.2) zs).flatten::H) (fun q'=>q+q'.2≤maxLen) hd
  (fun a w st mm=>by
   unfold a2D at hb
   split at hb
   ·rename_i inf hi
    cases hz:inf.zero with
    |none=>simp[hz]at hb
    |some z0=>
     simp only[hz,Option.map_some,Option.some.injEq,Prod.mk.injEq]at hb
     obtain⟨hz1,hz2,hz3⟩:=hb
     have hk':0<k:=by simpa[Nat.blt_eq]using hk0
     have hz0:z0.cells=zs.toArray:=by rw[←hz1]
     have hold:(Builtin.firstCells inf.size 0 (.slice none 0 0)).run P w.drew = .ok ([]:List Value).toArray w.drew:=by
      have hl0:∀(b:Addr),(loadCells b 0).run P w.drew = .ok #[] w.drew:=fun b=>run_loadCells_list (P:=P) w.drew b [] (fun j v hv=>by simp at hv)
      simp[Builtin.firstCells,hl0]
     have hg:0<0+q:=by omega
     have hcapq:grownCap w (0+q) 0 e=q+(grownCap w (0+q) 0 e-q):=by have:=grownCap_ge w (0+q) 0 e;omega
     have h48:Builtin.nextslicecap (0+q) 0 * inf.bytes≤281474976710656:=by
      have h1:Builtin.nextslicecap (0+q) 0 * inf.bytes≤2 * (0+q) * inf.bytes:=Nat.mul_le_mul_right _ (Room.nextslicecap_le' hg)
      rw[Nat.mul_assoc,hz3]at h1
      rw[hz3]
      simp only[Nat.zero_add]at h1 ⊢
      omega
     have h48q:q * inf.bytes≤281474976710656:=by rw[hz3];omega
     have hr:=Lib.run_append_grow_zeros (P:=P) w tt tn ty e inf z0 kq kn he hn hi hz none 0 0 [] hold q hq (by omega) hg (by unfold maxLen at hlen;omega) h48q h48
     have hzc:∀q,Builtin.zeroCells z0.cells q=(List.replicate q zs).flatten.toArray:=fun q=>by
      have h2:Builtin.zeroCells zs.toArray q=madeCells zs.toArray (q * zs.length):=by simp[Builtin.zeroCells,madeCells]
      rw[hz0,h2,a5s zs (by omega),a7s]
     rw[hzc,hzc]at hr
     simp only[Nat.zero_add]at hr hcapq
     refine⟨(w.heap.size,grownCap w q 0 e-q),w.drew.alloc (.cells (List.replicate (q+(grownCap w q 0 e-q)) zs).flatten.toArray e),?_,?_,mm.drew.alloc e _⟩
     ·show q+(grownCap w q 0 e-q)≤maxLen
      rw[←hcapq];exact grownCap_le_maxLen w q 0 e hlen
     ·have e1:([]:List Value).toArray++(List.replicate q zs).flatten.toArray++(List.replicate (grownCap w q 0 e-q) zs).flatten.toArray=(List.replicate (q+(grownCap w q 0 e-q)) zs).flatten.toArray:=by
       rw[List.append_toArray []  ,List.nil_append,List.append_toArray,←List.flatten_append,List.replicate_append_replicate]
      rw[e1]at hr
      simp only[execOp,resolve,invoke,builtin,Sem.run_bind,Sem.run_pure,Result.andThen_ok,List.map_toArray,List.map_cons,List.map_nil,st.ev hx,st.ev hy,hr]
      rw[←hcapq]
   ·cases hb) fun q' hq'=>kk q'.1 q'.2 hq'
theorem FnX.backE {f:FuncId} {args:Array Value} {g e k:Nat} {xs:List Value} {p:Value→Res→Prop}
  (h:FnX P f args I [.blk g e xs] (fun u r=>∃yss rest m cap,Uk k yss∧Uk k rest∧yss.length=m∧m+rest.length=cap∧cap≤maxLen∧r = .blk g e (yss++rest).flatten∧p u (.row (.slice (some ⟨g,0,none⟩) m cap) e k m yss.flatten))):FnX P f args I [.blk g e xs] p:=
 ⟨fun w m'=>(h.go w m').mono fun _ w' ⟨u,I',H',he,hm',hq⟩=>by
  obtain⟨rfl,r',rfl,yss,rest,m,cap,hU,hR,hm,hc,hl,rfl,hp⟩:=hq;refine⟨_,_,_,he,?_,rfl,_,rfl,hp⟩
  have hb:w'.heap[g]? = some (.cells (yss++rest).flatten.toArray e (0,0)):=hm'.blk
  exact hm'.step rfl ⟨rfl,Nat.le_refl _⟩ rfl (Nat.le_refl _) (fun _ _ _=>rfl) (IsRow.shut hb hU hR hm hc hl) (fun g' hg'=>.inl hg')⟩
theorem FnX.weak {f:FuncId} {args:Array Value} {H:List Res} {p q:Value→Res→Prop} (h:FnX P f args I H p) (hpq:∀u r,p u r→q u r):FnX P f args I H q:=
 ⟨fun w m'=>(h.go w m').mono fun _ w' ⟨u,I',H',he,hm',hq⟩=>by
  obtain⟨rfl,r',rfl,hp⟩:=hq
  exact⟨_,_,_,he,hm',rfl,_,rfl,hpq _ _ hp⟩⟩
theorem FnX.of_rowF {α:Type} [Enc α] {f:FuncId} {args:Value→List Value} {p:Value→Res→Prop} {v:Value} {e k m:Nat} {xs:List Value} {l:List α} (hF:Flat I xs l) (hk:k=Enc.k α) (hm:m=l.length) (h0:0<l.length)
  (h1:∀g cap rest xss,v = .slice (some ⟨g,0,none⟩) m cap→FlatC I xss l→Uk k rest→m+rest.length=cap→cap≤maxLen→FnX P f (args (.slice (some ⟨g,0,none⟩) m cap)).toArray I [.blk g e (xss++rest).flatten] p):FnX P f (args v).toArray I [.row v e k m xs] p:=by
 obtain⟨xss,rfl,hC⟩:=FlatC.of hF;exact FnX.of_rowV (by rw[hk];exact hC.uk) (by rw[hC.len,hm]) (fun h _=>absurd h (by omega)) fun g cap rest hv hR hc hl=>h1 g cap rest xss hv hC hR hc hl
end
end Go.Sx
namespace Go.Proofs.YtdapmfkbpnjkmaaGreat
open Go Go.Sx
set_option linter.all false
set_option maxRecDepth 20000
set_option maxHeartbeats 4000000
instance T.und_345:Has (Tryz.prog.underlying 345) (.int .u64):=⟨by kernel_rfl⟩
theorem c8z (I:IMap) (s:ByteArray) :
    FnV Tryz.prog 109 #[.string s] I (.bool false):=by
 refine enter Tryz.func109 Tryz.call109 rfl Tryz.ntmps109 rfl (fun w0=>?_);refine go 14 ?_;refine a0s rfl rfl ?_;exact q_v (congrArg Value.bool (by simp))
theorem d0o (I:IMap) (s t:ByteArray) :
    FnV Tryz.prog 277 #[.string s,.string t] I (.bool (sLt s t)):=by
 refine enter Tryz.func277 Tryz.call277 rfl Tryz.ntmps277 rfl (fun w0=>?_);refine go 9 ?_;refine a0d (c8z _ s) rfl rfl ?_;refine go 14 ?_;refine a0s rfl rfl ?_;exact q_v rfl
theorem c8w (I:IMap) {rest:Rst 1} {cap:Nat} (g:Nat) (l:List ByteArray) (hl2:l.length≤12) (hc:l.length+rest.l.length=cap) (hcm:cap≤maxLen) :
    FnX Tryz.prog 271 #[.slice (some ⟨g,0,none⟩) l.length cap,.int .i64 0,.int .i64 ((l.length:Nat):Int)] I [.blk g 9 (a2O l++rest.l).flatten] (fun u r=>u = .tuple #[]∧∃m,Pm l m∧r = .blk g 9 (a2O m++rest.l).flatten):=by
 refine enter Tryz.func271 Tryz.call271 rfl Tryz.ntmps271 rfl (fun w0=>?_);refine go 3 ?_;refine o_v rfl (OV.cast (u:=.int .i64 ((1:Nat):Int)) (a2d rfl rfl ⟨by omega,by omega⟩) (congrArg (Value.int .i64) (by omega))) ?_;refine go 4 ?_
 refine a1z (1) (l) (fun i m=>I)
  (fun i m=>[(0,.slice (some ⟨g,0,none⟩) l.length cap),(1,.int .i64 0),(2,.int .i64 ((l.length:Nat):Int)),(6,.int .i64 ((i:Nat):Int))])
  (fun i m=>[.blk g 9 (a2O m++rest.l).flatten])
  (fun i m=>(i≤l.length∨i=1)∧Pm l m)
  (fun i m=>l.length-i) ⟨.inr rfl,Pm.refl l⟩ rfl sb rfl ?_
 intro i m ⟨hi,hpm⟩;refine go 8 ?_;refine cb rfl (fun h12 p12=>?_) (fun h12 p12=>?_)
 ·have hlt:i<l.length:=by omega
  refine go 11 ?_
  refine a1z (i) (m) (fun j k=>I)
   (fun j k=>[(0,.slice (some ⟨g,0,none⟩) l.length cap),(1,.int .i64 0),(2,.int .i64 ((l.length:Nat):Int)),(6,.int .i64 ((i:Nat):Int)),(7,.int .i64 ((j:Nat):Int))])
   (fun j k=>[.blk g 9 (a2O k++rest.l).flatten])
   (fun j k=>j≤i∧Pm l k)
   (fun j k=>j) ⟨Nat.le_refl _,hpm⟩ rfl sb rfl ?_
  intro j k ⟨hj,hpk⟩
  have hkl:=hpk.1
  refine go 2 ?_;refine a0F T.mixed ?_;refine a0e 0 rfl rfl (by kernel_rfl) rfl (.refl _) rfl (a0a rfl) ?_;refine a0e 1 rfl rfl (by kernel_rfl) rfl (.refl _) rfl (a0a rfl) ?_;refine a0e 2 rfl rfl (by kernel_rfl) rfl (.refl _) rfl (a9R rfl rfl) ?_;refine a0e 3 rfl rfl (by kernel_rfl) rfl (.refl _) rfl (a0a rfl) ?_;refine sxb 19 rfl (fun h19 p19=>?_) (fun h19 p19=>?_)
  ·have hjk:j<k.length:=by omega
   have hjk1:j-1<k.length:=by omega
   refine d_t 4 rfl rfl (by kernel_rfl) rfl (fun _ m=>m.keeps (.refl _)) (a0k rfl rfl h19 (a0a rfl)) ?_;refine d_t 5 rfl rfl (by kernel_rfl) rfl (fun _ m=>m.keeps (.refl _)) (a0k rfl rfl h19 (a0a rfl)) ?_;refine d_t 6 rfl rfl (by kernel_rfl) rfl (fun _ m=>m.keeps (.refl _)) (a0k rfl rfl h19 (a0h he rfl rfl rfl (j) (by omega) (by omega))) ?_;refine d_t 7 rfl rfl (by kernel_rfl) rfl (fun _ m=>m.keeps (.refl _)) (a0k rfl rfl h19 (a4m m0 (Uk.append (a2P _) rest.uk) he rfl (j) (by omega) (a5U hjk))) ?_;refine d_t 8 rfl rfl (by kernel_rfl) rfl (fun _ m=>m.keeps (.refl _)) (a0k rfl rfl h19 (a0a rfl)) ?_;refine d_t 9 rfl rfl (by kernel_rfl) rfl (fun _ m=>m.keeps (.refl _)) (a0k rfl rfl h19 (a0a rfl)) ?_;refine d_t 10 rfl rfl (by kernel_rfl) rfl (fun _ m=>m.keeps (.refl _)) (a0k rfl rfl h19 (OV.cast (u:=.int .i64 ((j-1:Nat):Int)) (a1m rfl rfl ⟨by omega,by omega⟩) (congrArg (Value.int .i64) (by omega)))) ?_;refine d_t 11 rfl rfl (by kernel_rfl) rfl (fun _ m=>m.keeps (.refl _)) (a0k rfl rfl h19 (a0h he rfl rfl rfl (j-1) (by omega) (by omega))) ?_;refine d_t 12 rfl rfl (by kernel_rfl) rfl (fun _ m=>m.keeps (.refl _)) (a0k rfl rfl h19 (a4m m0 (Uk.append (a2P _) rest.uk) he rfl (j-1) (by omega) (a5U hjk1))) ?_;refine a0m 13 (by kernel_rfl) rfl ?_;refine a0R rfl rfl h19 (a0d (d0o _ _ _) rfl rfl ?_);refine a0D (fun _ m=>m.keeps (.refl _)) ?_;refine a0e 14 rfl rfl (by kernel_rfl) rfl (.refl _) rfl (a3g h19 rfl rfl) ?_;refine a0n (by kernel_rfl) ?_;refine go 1 ?_;refine cb rfl (fun h30 p30=>?_) (fun h30 p30=>?_)
   ·refine go 4 ?_;refine a1I T.mixed ?_;refine a0e 0 rfl rfl (by kernel_rfl) rfl (.cons _ .slnil) rfl (a0a rfl) ?_;refine a0e 1 rfl rfl (by kernel_rfl) rfl (.cons _ .slnil) rfl (a0a rfl) ?_;refine a0e 2 rfl rfl (by kernel_rfl) rfl (.cons _ .slnil) rfl (a0a rfl) ?_;refine a0e 3 rfl rfl (by kernel_rfl) rfl (.cons _ .slnil) rfl (a0a rfl) ?_;refine a0e 4 rfl rfl (by kernel_rfl) rfl (.cons _ .slnil) rfl (OV.cast (u:=.int .i64 ((j-1:Nat):Int)) (a1m rfl rfl ⟨by omega,by omega⟩) (congrArg (Value.int .i64) (by omega))) ?_;refine a0e 5 rfl rfl (by kernel_rfl) rfl (.cons _ .slnil) rfl (a0a rfl) ?_;refine a0e 6 rfl rfl (by kernel_rfl) rfl (.cons _ .slnil) rfl (a0a rfl) ?_;refine a0e 7 rfl rfl (by kernel_rfl) rfl (.cons _ .slnil) rfl (OV.cast (u:=.int .i64 ((j-1:Nat):Int)) (a1m rfl rfl ⟨by omega,by omega⟩) (congrArg (Value.int .i64) (by omega))) ?_;refine a0e 8 rfl rfl (by kernel_rfl) rfl (.cons _ .slnil) rfl (a0h he rfl rfl rfl (j-1) (by omega) (by omega)) ?_;refine a0e 10 rfl rfl (by kernel_rfl) rfl (.cons _ .slnil) rfl (a0a rfl) ?_;refine a0e 11 rfl rfl (by kernel_rfl) rfl (.cons _ .slnil) rfl (a0a rfl) ?_;refine a0e 12 rfl rfl (by kernel_rfl) rfl (.cons _ .slnil) rfl (a0h he rfl rfl rfl (j) (by omega) (by omega)) ?_;refine a3O 9 13 (by kernel_rfl) rfl rfl ?_ ?_
    ·refine a0t rfl (a4m m0 (Uk.append (a2P _) rest.uk) he rfl (j-1) (by omega) (a5U hjk1)) ?_;refine a0D (fun _ m=>m.keeps (.cons _ .slnil)) ?_;refine a0m 13 (by kernel_rfl) rfl ?_;refine a0t rfl (a4m m0 (Uk.append (a2P _) rest.uk) he rfl (j) (by omega) (a5U hjk)) ?_;refine a0D (fun _ m=>m.keeps (.cons _ .slnil)) ?_;refine a0e 14 rfl rfl (by kernel_rfl) rfl (.cons _ .slnil) rfl (a0h he rfl rfl rfl (j) (by omega) (by omega)) ?_;refine a0m 15 (by kernel_rfl) rfl ?_;refine a1Y _ (j) (by first|exact Uk.append (a2P _) rest.uk|exact (Uk.append (a2P _) rest.uk).set rfl _) he rfl rfl rfl rfl rfl (by omega) (by simp[a4q];omega) ?_;refine a0D (fun _ m=>m.keeps (.cons _ .slnil)) ?_;refine a0e 16 rfl rfl (by kernel_rfl) rfl (.cons _ .slnil) rfl (a0h he rfl rfl rfl (j-1) (by omega) (by omega)) ?_;refine a0m 17 (by kernel_rfl) rfl ?_;refine a1Y _ (j-1) (by first|exact Uk.append (a2P _) rest.uk|exact (Uk.append (a2P _) rest.uk).set rfl _) he rfl rfl rfl rfl rfl (by omega) (by simp[a4q];omega) ?_;refine a0D (fun _ m=>m.keeps (.cons _ .slnil)) ?_;refine a0n (by kernel_rfl) ?_;refine go 4 ?_;refine o_v rfl (OV.cast (u:=.int .i64 ((j-1:Nat):Int)) (a1m rfl rfl ⟨by omega,by omega⟩) (congrArg (Value.int .i64) (by omega))) ?_;refine go 3 ?_;exact a0X (j-1) ((k.set j k[j-1]).set (j-1) k[j]) ⟨by omega,hpk.swap hjk hjk1⟩ (by omega) rfl sb (by first|rw[←c1a hjk hjk1] | rw[←b6C hjk hjk1 (by omega)])
    ·refine a0t rfl (a4m m0 (Uk.append (a2P _) rest.uk) he rfl (j) (by omega) (a5U hjk)) ?_;refine a0D (fun _ m=>m.keeps (.cons _ .slnil)) ?_;refine a0m 9 (by kernel_rfl) rfl ?_;refine a0t rfl (a4m m0 (Uk.append (a2P _) rest.uk) he rfl (j-1) (by omega) (a5U hjk1)) ?_;refine a0D (fun _ m=>m.keeps (.cons _ .slnil)) ?_;refine a0e 14 rfl rfl (by kernel_rfl) rfl (.cons _ .slnil) rfl (a0h he rfl rfl rfl (j) (by omega) (by omega)) ?_;refine a0m 15 (by kernel_rfl) rfl ?_;refine a1Y _ (j) (by first|exact Uk.append (a2P _) rest.uk|exact (Uk.append (a2P _) rest.uk).set rfl _) he rfl rfl rfl rfl rfl (by omega) (by simp[a4q];omega) ?_;refine a0D (fun _ m=>m.keeps (.cons _ .slnil)) ?_;refine a0e 16 rfl rfl (by kernel_rfl) rfl (.cons _ .slnil) rfl (a0h he rfl rfl rfl (j-1) (by omega) (by omega)) ?_;refine a0m 17 (by kernel_rfl) rfl ?_;refine a1Y _ (j-1) (by first|exact Uk.append (a2P _) rest.uk|exact (Uk.append (a2P _) rest.uk).set rfl _) he rfl rfl rfl rfl rfl (by omega) (by simp[a4q];omega) ?_;refine a0D (fun _ m=>m.keeps (.cons _ .slnil)) ?_;refine a0n (by kernel_rfl) ?_;refine go 4 ?_;refine o_v rfl (OV.cast (u:=.int .i64 ((j-1:Nat):Int)) (a1m rfl rfl ⟨by omega,by omega⟩) (congrArg (Value.int .i64) (by omega))) ?_;refine go 3 ?_;exact a0X (j-1) ((k.set j k[j-1]).set (j-1) k[j]) ⟨by omega,hpk.swap hjk hjk1⟩ (by omega) rfl sb (by first|rw[←c1a hjk hjk1] | rw[←b6C hjk hjk1 (by omega)])
   ·refine go 12 ?_;exact a0X (i+1) (k) ⟨.inl (by omega),hpk⟩ (by omega) rfl sb rfl
  ·refine d_t 4 rfl rfl (by kernel_rfl) rfl (fun _ m=>m.keeps (.refl _)) (a0A rfl rfl h19) ?_;refine d_t 5 rfl rfl (by kernel_rfl) rfl (fun _ m=>m.keeps (.refl _)) (a0A rfl rfl h19) ?_;refine d_t 6 rfl rfl (by kernel_rfl) rfl (fun _ m=>m.keeps (.refl _)) (a0A rfl rfl h19) ?_;refine d_t 7 rfl rfl (by kernel_rfl) rfl (fun _ m=>m.keeps (.refl _)) (a0A rfl rfl h19) ?_;refine d_t 8 rfl rfl (by kernel_rfl) rfl (fun _ m=>m.keeps (.refl _)) (a0A rfl rfl h19) ?_;refine d_t 9 rfl rfl (by kernel_rfl) rfl (fun _ m=>m.keeps (.refl _)) (a0A rfl rfl h19) ?_;refine d_t 10 rfl rfl (by kernel_rfl) rfl (fun _ m=>m.keeps (.refl _)) (a0A rfl rfl h19) ?_;refine d_t 11 rfl rfl (by kernel_rfl) rfl (fun _ m=>m.keeps (.refl _)) (a0A rfl rfl h19) ?_;refine d_t 12 rfl rfl (by kernel_rfl) rfl (fun _ m=>m.keeps (.refl _)) (a0A rfl rfl h19) ?_;refine d_t 13 rfl rfl (by kernel_rfl) rfl (fun _ m=>m.keeps (.refl _)) (a0A rfl rfl h19) ?_;refine a0e 14 rfl rfl (by kernel_rfl) rfl (.refl _) rfl (a3K h19 rfl) ?_;refine a0n (by kernel_rfl) ?_;refine go 1 ?_;refine a0T rfl ?_;refine go 12 ?_;exact a0X (i+1) (k) ⟨.inl (by omega),hpk⟩ (by omega) rfl sb rfl
 ·refine go 4 ?_;refine a6E rfl ?_;exact q_x ⟨rfl,m,hpm,rfl⟩
theorem c8R (I:IMap) {rest:Rst 1} {cap:Nat} (g:Nat) (l:List ByteArray) (hl2:l.length≤12) (hc:l.length+rest.l.length=cap) (hcm:cap≤maxLen) (z:Int) :
    FnX Tryz.prog 225 #[.slice (some ⟨g,0,none⟩) l.length cap,.int .i64 0,.int .i64 ((l.length:Nat):Int),.int .i64 z] I [.blk g 9 (a2O l++rest.l).flatten] (fun u r=>u = .tuple #[]∧∃m,Pm l m∧r = .blk g 9 (a2O m++rest.l).flatten):=by
 refine enter Tryz.func225 Tryz.call225 rfl Tryz.ntmps225 rfl (fun w0=>?_);refine go 11 ?_
 refine a0Q (α:=Nat) 0 (fun i=>I)
  (fun i=>[(0,.slice (some ⟨g,0,none⟩) l.length cap),(1,.int .i64 0),(2,.int .i64 ((l.length:Nat):Int))])
  (fun i=>[.blk g 9 (a2O l++rest.l).flatten])
  (fun i=>True)
  (fun i=>0) trivial rfl sb rfl ?_
 intro i _;refine go 5 ?_;refine o_v rfl (OV.cast (u:=.int .i64 ((l.length:Nat):Int)) (a1m rfl rfl ⟨by omega,by omega⟩) (congrArg (Value.int .i64) (by omega))) ?_;refine go 7 ?_;refine o_v rfl (OV.cast (u:=.bool true) (c7y rfl rfl) (congrArg Value.bool (decide_eq_true (by omega)))) ?_;refine go 2 ?_;refine a2M rfl ?_;refine go 6 ?_;refine a1n (c8w _ g l hl2 hc hcm) rfl rfl (fun v27 s27 q27=>?_);obtain⟨rfl,m,hpm,rfl⟩:=q27;refine go 7 ?_;refine b8g rfl ?_;exact q_x ⟨rfl,m,hpm,rfl⟩
theorem d0n (I:IMap) (n:Nat) (hn:n<200) :
    FnE Tryz.prog 281 #[.int .u64 ((n:Nat):Int)] I (fun u=>∃k:Nat,u = .int .i64 (k:Int)):=by
 refine enter Tryz.func281 Tryz.call281 rfl Tryz.ntmps281 rfl (fun w0=>?_);refine go 9 ?_;refine o_v rfl (OV.cast (u:=.bool false) (b8a rfl rfl) (congrArg Value.bool (decide_eq_false (by omega)))) ?_;refine go 2 ?_;refine a0T rfl ?_;refine go 6 ?_;refine o_v rfl (OV.cast (u:=.bool false) (b8a rfl rfl) (congrArg Value.bool (decide_eq_false (by omega)))) ?_;refine go 2 ?_;refine a0T rfl ?_;refine go 6 ?_;refine o_v rfl (OV.cast (u:=.bool false) (b8a rfl rfl) (congrArg Value.bool (decide_eq_false (by omega)))) ?_;refine go 2 ?_;refine a0T rfl ?_;refine go 6 ?_;refine o_v rfl (a2B he he rfl (m:=((n:Nat):Int)) (c1G n (by omega))) ?_;refine o_v rfl (c7A he rfl rfl n rfl (Nat.lt_of_lt_of_le hn (by decide +kernel))) ?_;refine o_v rfl (a2B he he rfl (c5J _)) ?_;refine o_v rfl (a2d rfl rfl (c2a _)) ?_;refine go 4 ?_;refine a0s rfl rfl ?_;exact q_e ⟨_,by rw[Int.zero_add]⟩
theorem b8t (I:IMap) (n:Nat) (hn:n<200) :
    FnE Tryz.prog 226 #[.int .u64 ((n:Nat):Int)] I (fun u=>∃k:Nat,u = .int .i64 (k:Int)):=by
 refine enter Tryz.func226 Tryz.call226 rfl Tryz.ntmps226 rfl (fun w0=>?_);refine go 6 ?_;refine a0T rfl ?_;refine go 6 ?_;refine a2p (d0n _ n hn) rfl rfl (fun v7 q7=>?_);obtain⟨k,rfl⟩:=q7;refine go 4 ?_;refine a0s rfl rfl ?_;exact q_e ⟨_,rfl⟩
theorem c7e (I:IMap) {rest:Rst 1} {cap:Nat} (g:Nat) (l:List ByteArray) (hl2:l.length≤12) (hc:l.length+rest.l.length=cap) (hcm:cap≤maxLen) :
    FnX Tryz.prog 157 #[.slice (some ⟨g,0,none⟩) l.length cap] I [.blk g 9 (a2O l++rest.l).flatten] (fun u r=>u = .tuple #[]∧∃m,Pm l m∧r = .blk g 9 (a2O m++rest.l).flatten):=by
 refine enter Tryz.func157 Tryz.call157 rfl Tryz.ntmps157 rfl (fun w0=>?_);refine go 11 ?_;refine o_v rfl (a2B he he rfl (m:=((l.length:Nat):Int)) (a3p _ (by omega) (by omega))) ?_;refine go 1 ?_;refine a2p (b8t _ l.length (by omega)) rfl rfl (fun v9 q9=>?_);obtain⟨z,rfl⟩:=q9;refine go 1 ?_;refine a1n (c8R _ g l hl2 hc hcm z) rfl rfl (fun v10 s10 q10=>?_);obtain⟨rfl,m,hpm,rfl⟩:=q10;refine go 1 ?_;refine a6E rfl ?_;exact q_x ⟨rfl,m,hpm,rfl⟩
theorem c8v (I:IMap) :
    FnV Tryz.prog 271 #[.slice none 0 0,.int .i64 0,.int .i64 0] I (.tuple #[]):=by
 refine enter Tryz.func271 Tryz.call271 rfl Tryz.ntmps271 rfl (fun w0=>?_);refine go 3 ?_;refine o_v rfl (OV.cast (u:=.int .i64 ((1:Nat):Int)) (a2d rfl rfl ⟨by omega,by omega⟩) (congrArg (Value.int .i64) (by omega))) ?_;refine go 4 ?_
 refine a0Q (α:=Nat) 0 (fun i=>I)
  (fun i=>[(2,.int .i64 0),(6,.int .i64 1)])
  (fun i=>[])
  (fun i=>True)
  (fun i=>0) trivial rfl sb rfl ?_
 intro i _;refine go 5 ?_;refine o_v rfl (OV.cast (u:=.bool false) (a5o rfl rfl) (congrArg Value.bool (decide_eq_false (by omega)))) ?_;refine go 2 ?_;refine a0T rfl ?_;refine go 4 ?_;refine a6E rfl ?_;exact q_v rfl
theorem c8Q (I:IMap) (z:Int) :
    FnV Tryz.prog 225 #[.slice none 0 0,.int .i64 0,.int .i64 0,.int .i64 z] I (.tuple #[]):=by
 refine enter Tryz.func225 Tryz.call225 rfl Tryz.ntmps225 rfl (fun w0=>?_);refine go 11 ?_
 refine a0Q (α:=Nat) 0 (fun i=>I)
  (fun i=>[(0,.slice none 0 0),(1,.int .i64 0),(2,.int .i64 0)])
  (fun i=>[])
  (fun i=>True)
  (fun i=>0) trivial rfl sb rfl ?_
 intro i _;refine go 5 ?_;refine o_v rfl (OV.cast (u:=.int .i64 0) (a1m rfl rfl ⟨by omega,by omega⟩) rfl) ?_;refine go 7 ?_;refine o_v rfl (OV.cast (u:=.bool true) (c7y rfl rfl) (congrArg Value.bool (decide_eq_true (by omega)))) ?_;refine go 2 ?_;refine a2M rfl ?_;refine go 6 ?_;refine a0d (c8v _) rfl rfl ?_;refine go 7 ?_;refine b8g rfl ?_;exact q_v rfl
theorem c3J (I:IMap) :
    FnV Tryz.prog 157 #[.slice none 0 0] I (.tuple #[]):=by
 refine enter Tryz.func157 Tryz.call157 rfl Tryz.ntmps157 rfl (fun w0=>?_);refine go 11 ?_;refine o_v rfl (a2B he he rfl (m:=((0:Nat):Int)) (a3p _ (by omega) (by omega))) ?_;refine go 1 ?_;refine a2p (b8t _ 0 (by omega)) rfl rfl (fun v9 q9=>?_);obtain⟨z,rfl⟩:=q9;refine go 1 ?_;refine a0d (c8Q _ z) rfl rfl ?_;refine go 1 ?_;refine a6E rfl ?_;exact q_v rfl
theorem c3K (I:IMap) (v:Value) (l:List ByteArray) (xs:List Value) (hF:Flat I xs l) (hl2:l.length≤12) :
  FnX Tryz.prog 157 #[v] I [.row v 9 1 l.length xs] (fun u r=>u = .tuple #[]∧∃m ys,Pm l m∧Flat I ys m∧r = .row v 9 1 l.length ys):=by
 obtain⟨xss,rfl,hC⟩:=FlatC.of hF;refine FnX.of_rowV (args:=fun v=>[v]) hC.uk hC.len (fun h0 h1=>?_) (fun g cap rest hv hR hc hcm=>?_)
 ·obtain rfl:l=[]:=List.eq_nil_of_length_eq_zero h0;subst h1;refine (FnX.of_V (t:=9) (k:=1) (c3J I)).weak ?_;rintro u r ⟨rfl,rfl⟩;exact⟨rfl,[],[],Pm.refl _,.nil,rfl⟩
 ·subst hv;obtain rfl:=c5a hC;refine FnX.backE (k:=1) ((c7e I (rest:=⟨rest,hR⟩) g l hl2 hc hcm).weak ?_);rintro u r ⟨rfl,m,hpm,rfl⟩;exact⟨a2O m,rest,l.length,cap,a2P m,hR,by rw[a4q,hpm.1],hc,hcm,rfl,rfl,m,_,hpm,(b2q I m).flat,rfl⟩
theorem c7d (I:IMap) (v:Value) (l:List ByteArray) (xs:List Value) (hF:Flat I xs l) (hl:0<l.length) (hl2:l.length≤12) :
  FnX Tryz.prog 157 #[v] I [.row v 9 1 l.length xs] (fun u r=>u = .tuple #[]∧∃m ys,Pm l m∧Flat I ys m∧r = .row v 9 1 l.length ys):=c3K I v l xs hF hl2
end Go.Proofs.YtdapmfkbpnjkmaaGreat
namespace Go.Proofs.YtdapmfkbpnjkmaaGreat
open Go Go.Sx
set_option linter.all false
set_option maxRecDepth 20000
set_option maxHeartbeats 4000000
instance T.by_33:Has (a2D Tryz.prog 33) ([.slice none 0 0],1,24):=⟨by kernel_rfl⟩
instance T.elt_242:Has (a8r Tryz.prog 242) (33,1):=⟨by kernel_rfl⟩
instance T.und_242:Has (Tryz.prog.underlying 242) (.slice 33):=⟨by kernel_rfl⟩
instance T.zero_33:Has (a2t Tryz.prog 33) [.slice none 0 0]:=⟨by kernel_rfl⟩
theorem d0j (I:IMap) (n:Nat) (hn:n≤1000000) :
    FnX Tryz.prog 304 #[.slice none 0 0,.int .i64 ((n:Nat):Int)] I [] (fun u r=>r = .row u 9 1 0 []):=by
 refine enter Tryz.func304 Tryz.call304 rfl Tryz.ntmps304 rfl (fun w0=>?_);refine go 9 ?_;refine o_v rfl (OV.cast (u:=.bool false) (a5o rfl rfl) (congrArg Value.bool (decide_eq_false (by omega)))) ?_;refine go 2 ?_;refine a0T rfl ?_;refine go 7 ?_;refine o_v rfl (c4c he rfl) ?_;refine go 3 ?_;refine o_v rfl (OV.cast (u:=.int .i64 ((n:Nat):Int)) (a1m rfl rfl ⟨by omega,by omega⟩) (congrArg (Value.int .i64) (by omega))) ?_;refine go 9 ?_;refine cb rfl (fun h16 p16=>?_) (fun h16 p16=>?_)
 ·refine go 3 ?_;refine o_v rfl (c4c he rfl) ?_;refine o_v rfl (a1w he rfl rfl 0 rfl (by omega)) ?_;refine go 2 ?_;refine b1S he he he rfl rfl rfl rfl (by omega) (by omega) (by unfold maxLen;omega) rfl (fun g22 r22 hr22=>?_);refine go 2 ?_;refine o_v rfl (a1w he rfl rfl 0 rfl (by omega)) ?_;refine go 10 ?_;refine a0s rfl rfl ?_;refine a2G (xss:=[]) (m:=0) (cap:=n+r22) (k:=1) (by intro c hc;cases hc) (Uk.rep rfl _) rfl (by simp) hr22 ?_;exact q_x rfl
 ·refine go 9 ?_;refine a0s rfl rfl ?_;refine a1f 9 1 ?_;exact q_x rfl
theorem c5I (I:IMap) (v:Value) (ls:List (List ByteArray)) (hv:RdS I v ls) (hb:ls.flatten.length≤1000000) (hl:ls.length≤1000000) :
    FnX Tryz.prog 246 #[v] I [] (fun u r=>∃xs,r = .row u 9 1 ls.flatten.length xs∧Flat I xs ls.flatten):=by
 obtain⟨A,c0,rfl,hA,hc,hm⟩:=hv;refine enter Tryz.func246 Tryz.call246 rfl Tryz.ntmps246 rfl (fun w0=>?_);refine go 19 ?_
 refine a0Q (α:=Nat) 0 (fun i=>I)
  (fun i=>[(0,.slice A ls.length c0),(3,.int .i64 (((ls.take (i)).flatten.length:Nat):Int)),(9,.slice A ls.length c0),(10,.int .i64 ((ls.length:Nat):Int)),(11,.int .i64 ((i:Nat):Int))])
  (fun i=>[])
  (fun i=>i≤ls.length)
  (fun i=>ls.length-i) (Nat.zero_le _) rfl sb rfl ?_
 intro i hi
 have hfi:=a5X ls i
 refine go 6 ?_;refine cb rfl (fun h12 p12=>?_) (fun h12 p12=>?_)
 ·have hlt:i<ls.length:=by omega
  have hf1:=congrArg List.length (a5Y hlt)
  rw[List.length_append]at hf1
  have hf2:=a5X ls (i+1)
  refine go 6 ?_;obtain⟨b13,o13,w13,e13,c13,r13⟩:=RdA.at_ hA (i:=i) (by omega);obtain⟨q13,rfl,S13,d13,rfl,hS13,hd13,hm13⟩:=r13;refine o_v rfl (a0h he rfl rfl e13 (i) (by omega) (by omega)) ?_;refine o_v rfl (a0K he rfl (c13 0 _ rfl)) ?_;refine go 8 ?_;refine o_v rfl (OV.cast (u:=.int .i64 (((ls.take (i+1)).flatten.length:Nat):Int)) (a2d rfl rfl ⟨by omega,by omega⟩) (congrArg (Value.int .i64) (by omega))) ?_;refine go 6 ?_;refine o_v rfl (OV.cast (u:=.bool false) (a5o rfl rfl) (congrArg Value.bool (decide_eq_false (by omega)))) ?_;refine go 2 ?_;refine a0T rfl ?_;refine go 8 ?_;exact a0M (i+1) (by omega) (by omega) rfl sb rfl
 ·have e:i=ls.length:=by omega
  subst e;rw[List.take_length];refine go 9 ?_;refine a4v (d0j _ ls.flatten.length hb) rfl rfl (fun v24 s24 q24=>?_);obtain rfl:=q24;refine go 12 ?_
  refine a2L ((0:Nat)) (_) ([]) (fun i v6 xs=>I)
   (fun i v6 xs=>[(0,.slice A ls.length c0),(6,v6),(25,.slice A ls.length c0),(26,.int .i64 ((ls.length:Nat):Int)),(27,.int .i64 ((i:Nat):Int))])
   (fun i v6 xs=>[.row v6 9 1 (ls.take (i)).flatten.length xs])
   (fun i v6 xs=>i≤ls.length∧Flat I xs (ls.take i).flatten)
   (fun i v6 xs=>ls.length-i) ⟨Nat.zero_le _,.nil⟩ rfl sb rfl ?_
  intro i v6 xs ⟨hi,hF⟩
  have hfi:=a5X ls i
  refine go 6 ?_;refine cb rfl (fun h28 p28=>?_) (fun h28 p28=>?_)
  ·have hlt:i<ls.length:=by omega
   have hf1:=congrArg List.length (a5Y hlt)
   rw[List.length_append]at hf1
   have hf2:=a5X ls (i+1)
   refine go 6 ?_;obtain⟨b29,o29,w29,e29,c29,r29⟩:=RdA.at_ hA (i:=i) (by omega);obtain⟨q29,rfl,S29,d29,rfl,hS29,hd29,hm29⟩:=r29;refine o_v rfl (a0h he rfl rfl e29 (i) (by omega) (by omega)) ?_;refine o_v rfl (a0K he rfl (c29 0 _ rfl)) ?_;refine go 7 ?_;refine a0y (⟨_,_,rfl,hS29,hd29,hm29⟩) rfl he he rfl rfl rfl rfl (by omega) (by omega) rfl (fun v33 x33 f33=>?_);refine go 9 ?_;exact a1M (i+1) (_) (_) ⟨by omega,by rw[a5Y hlt];exact hF.append f33⟩ (by omega) rfl sb (by rw[a5Y hlt,List.length_append])
  ·refine go 12 ?_;refine a0s rfl rfl ?_
   have e:i=ls.length:=by omega
   subst e;rw[List.take_length]at hF ⊢
   exact q_x ⟨xs,rfl,hF⟩
theorem b6Y (I:IMap) {rest:Rst 1} {cap:Nat} (g:Nat) (l:List ByteArray) (hl:0<l.length) (hl2:l.length≤12) (hc:l.length+rest.l.length=cap) (hcm:cap≤maxLen) :
    FnX Tryz.prog 247 #[.slice (some ⟨g,0,none⟩) l.length cap] I [.blk g 9 (a2O l++rest.l).flatten] (fun u r=>∃m rest2,(∀x,x∈m↔x∈l)∧m.length≤l.length∧u = .slice (some ⟨g,0,none⟩) m.length cap∧r = .blk g 9 (a2O m++rest2).flatten∧Uk 1 rest2∧m.length+rest2.length=cap):=by
 refine enter Tryz.func247 Tryz.call247 rfl Tryz.ntmps247 rfl (fun w0=>?_);refine go 13 ?_;refine cb rfl (fun h8 p8=>?_) (fun h8 p8=>?_)
 ·refine go 8 ?_;refine a0s rfl rfl ?_;exact q_x ⟨l,rest.l,fun _=>Iff.rfl,Nat.le_refl _,rfl,rfl,rest.uk,hc⟩
 ·refine go 9 ?_
  refine a0Q (α:=Nat) 1 (fun k0=>I)
   (fun k0=>[(0,.slice (some ⟨g,0,none⟩) l.length cap),(3,.int .i64 ((k0:Nat):Int))])
   (fun k0=>[.blk g 9 (a2O l++rest.l).flatten])
   (fun k0=>1≤k0∧k0≤l.length)
   (fun k0=>l.length-k0) ⟨Nat.le_refl _,hl⟩ rfl sb rfl ?_
  intro k0 ⟨hk1,hk2⟩;refine go 9 ?_;refine cb rfl (fun h13 p13=>?_) (fun h13 p13=>?_)
  ·have hkl:k0<l.length:=by omega
   have hkm:k0-1<l.length:=by omega
   refine go 5 ?_;refine a0F T.mixed ?_;refine a0e 0 rfl rfl (by kernel_rfl) rfl (.refl _) rfl (a0a rfl) ?_;refine a0e 1 rfl rfl (by kernel_rfl) rfl (.refl _) rfl (a0a rfl) ?_;refine a0e 2 rfl rfl (by kernel_rfl) rfl (.refl _) rfl (a0h he rfl rfl rfl (k0) (by omega) (by omega)) ?_;refine a0e 3 rfl rfl (by kernel_rfl) rfl (.refl _) rfl (a4m m0 (Uk.append (a2P _) rest.uk) he rfl (k0) (by omega) (a5U hkl)) ?_;refine a0e 4 rfl rfl (by kernel_rfl) rfl (.refl _) rfl (a0a rfl) ?_;refine a0e 5 rfl rfl (by kernel_rfl) rfl (.refl _) rfl (a0a rfl) ?_;refine a0e 6 rfl rfl (by kernel_rfl) rfl (.refl _) rfl (OV.cast (u:=.int .i64 ((k0-1:Nat):Int)) (a1m rfl rfl ⟨by omega,by omega⟩) (congrArg (Value.int .i64) (by omega))) ?_;refine a0e 7 rfl rfl (by kernel_rfl) rfl (.refl _) rfl (a0h he rfl rfl rfl (k0-1) (by omega) (by omega)) ?_;refine a0e 8 rfl rfl (by kernel_rfl) rfl (.refl _) rfl (a4m m0 (Uk.append (a2P _) rest.uk) he rfl (k0-1) (by omega) (a5U hkm)) ?_;refine a0e 9 rfl rfl (by kernel_rfl) rfl (.refl _) rfl (a5E rfl rfl) ?_;refine a0n (by kernel_rfl) ?_;refine go 1 ?_;refine cb rfl (fun h25 p25=>?_) (fun h25 p25=>?_)
   ·have hst:Cpt l l k0 (k0+1):=Cpt.start hk1 hkl p25
    refine go 4 ?_;refine o_v rfl (OV.cast (u:=.slice (some ⟨g,k0,none⟩) (l.length-k0) (cap-k0)) (a0S he rfl rfl k0 (by omega) (by omega)) (by rw[c1H,if_neg (by omega)];simp[add_lit])) ?_;refine go 10 ?_
    refine a2L (1) (k0) (l) (fun q k B=>I)
     (fun q k B=>[(0,.slice (some ⟨g,0,none⟩) l.length cap),(3,.int .i64 ((k:Nat):Int)),(4,.slice (some ⟨g,k0,none⟩) (l.length-k0) (cap-k0)),(5,.int .i64 ((q:Nat):Int))])
     (fun q k B=>[.blk g 9 (a2O B++rest.l).flatten])
     (fun q k B=>1≤q∧1≤k∧Cpt l B k (k0+q))
     (fun q k B=>l.length-(k0+q)) ⟨Nat.le_refl _,hk1,hst⟩ rfl sb rfl ?_
    intro q k B ⟨hq,hk,hB⟩
    have hBl:=hB.len
    have hkp:=hB.kp
    have hpl:=hB.pl
    refine go 5 ?_;refine o_v rfl (OV.cast (u:=.int .i64 ((l.length-k0:Nat):Int)) (a3V he rfl) rfl) ?_;refine go 3 ?_;refine cb rfl (fun h32 p32=>?_) (fun h32 p32=>?_)
    ·have hpq:k0+q<l.length:=by omega
     have hpB:k0+q<B.length:=by omega
     have hpm:k0+q-1<B.length:=by omega
     have hg1:=hB.get (j:=k0+q) (by omega) hpq hpB
     have hg2:=hB.get (j:=k0+q-1) (by omega) (by omega) hpm
     refine go 5 ?_;refine a0F T.mixed ?_;refine a0e 0 rfl rfl (by kernel_rfl) rfl (.refl _) rfl (a0a rfl) ?_;refine a0e 1 rfl rfl (by kernel_rfl) rfl (.refl _) rfl (a0a rfl) ?_;refine a0e 2 rfl rfl (by kernel_rfl) rfl (.refl _) rfl (a0h he rfl rfl rfl (q) (by omega) (by omega)) ?_;refine a0e 3 rfl rfl (by kernel_rfl) rfl (.refl _) rfl (a4m m0 (Uk.append (a2P _) rest.uk) he rfl (k0+q) (by omega) (a5U hpB)) ?_;refine a0e 4 rfl rfl (by kernel_rfl) rfl (.refl _) rfl (a0a rfl) ?_;refine a0e 5 rfl rfl (by kernel_rfl) rfl (.refl _) rfl (a0a rfl) ?_;refine a0e 6 rfl rfl (by kernel_rfl) rfl (.refl _) rfl (OV.cast (u:=.int .i64 ((q-1:Nat):Int)) (a1m rfl rfl ⟨by omega,by omega⟩) (congrArg (Value.int .i64) (by omega))) ?_;refine a0e 7 rfl rfl (by kernel_rfl) rfl (.refl _) rfl (a0h he rfl rfl rfl (q-1) (by omega) (by omega)) ?_;refine a0e 8 rfl rfl (by kernel_rfl) rfl (.refl _) rfl (a4m m0 (Uk.append (a2P _) rest.uk) he rfl (k0+q-1) (by omega) (a5U hpm)) ?_;refine a0e 9 rfl rfl (by kernel_rfl) rfl (.refl _) rfl (b1a rfl rfl) ?_;refine a0n (by kernel_rfl) ?_;refine go 1 ?_;refine cb rfl (fun h44 p44=>?_) (fun h44 p44=>?_)
     ·refine go 6 ?_;refine o_v rfl (a0h he rfl rfl rfl (q) (by omega) (by omega)) ?_;refine o_v rfl (a4m m0 (Uk.append (a2P _) rest.uk) he rfl (k0+q) (by omega) (a5U hpB)) ?_;refine o_v rfl (a0h he rfl rfl rfl (k) (by omega) (by omega)) ?_;refine go 1 ?_;refine a1Y _ (k) (Uk.append (a2P _) rest.uk) he rfl rfl rfl rfl rfl (by omega) (by simp[a4q];omega) ?_;refine go 15 ?_;exact a1M (q+1) (k+1) (B.set k l[k0+q]) ⟨by omega,by omega,hB.keep hpq⟩ (by omega) rfl sb (by rw[←hg1,←a9O (by omega)])
     ·refine go 9 ?_;exact a1M (q+1) (k) (B) ⟨by omega,hk,hB.skip hpq (by rw[←hg1,←hg2];simpa using h44) (by omega)⟩ (by omega) rfl sb rfl
    ·have hend:k0+q=l.length:=by omega
     have hdone:=fun x=>(hend▸hB).done x
     refine go 9 ?_;refine o_v rfl (OV.cast (u:=.slice (some ⟨g,k,none⟩) (l.length-k) (cap-k)) (a0S he rfl rfl k (by omega) (by omega)) (by rw[c1H,if_neg (by omega)];simp[add_lit])) ?_;refine go 1 ?_;refine b9S k he he rfl rfl rfl rfl (Uk.append (a2P _) rest.uk) (fun _=>by rw[Nat.mul_one]) (by simp[a4q];omega) ?_;rw[c0Y (by omega)];refine go 6 ?_;refine o_v rfl (a1w he rfl rfl k (by omega) (by omega)) ?_;refine go 9 ?_;refine a0s rfl rfl ?_;refine q_x ⟨B.take k,List.replicate (l.length-k) [.string ⟨#[]⟩]++rest.l,hdone,by rw[List.length_take];omega,?_,rfl,(Uk.rep rfl _).append rest.uk,by rw[List.length_take,List.length_append,List.length_replicate];omega⟩;rw[List.length_take,Nat.min_eq_left (by omega)]
   ·refine go 9 ?_;exact a0M (k0+1) ⟨by omega,by omega⟩ (by omega) rfl sb rfl
  ·refine go 12 ?_;refine a0s rfl rfl ?_;exact q_x ⟨l,rest.l,fun _=>Iff.rfl,Nat.le_refl _,rfl,rfl,rest.uk,hc⟩
theorem b6X (I:IMap) (v:Value) (l:List ByteArray) (xs:List Value) (hF:Flat I xs l) (hl:0<l.length) (hl2:l.length≤12) :
  FnX Tryz.prog 247 #[v] I [.row v 9 1 l.length xs] (fun u r=>∃m ys,(∀x,x∈m↔x∈l)∧m.length≤l.length∧Flat I ys m∧r = .row u 9 1 m.length ys):=
 FnX.of_rowF (args:=fun v=>[v]) hF rfl rfl hl fun g cap rest xss hv hC hR hc hcm=>by
  subst hv;obtain rfl:=c5a hC;refine FnX.backE (k:=1) ((b6Y I (rest:=⟨rest,hR⟩) g l hl hl2 hc hcm).weak ?_);rintro u r ⟨m,rest2,hm,hml,rfl,rfl,hR2,hc2⟩;exact⟨a2O m,rest2,m.length,cap,a2P m,hR2,a4q m,hc2,hcm,rfl,m,_,hm,hml,(b2q I m).flat,rfl⟩
theorem c6f (I:IMap) (v:Value) (ls:List (List ByteArray)) (hv:RdS I v ls) (hl:ls.length≤1000000) (h1:0<ls.flatten.length) (h2:ls.flatten.length≤12) :
    FnX Tryz.prog 198 #[v] I [] (fun u r=>∃m ys,(∀x,x∈m↔x∈ls.flatten)∧m.length≤ls.flatten.length∧Flat I ys m∧r = .row u 9 1 m.length ys):=by
 refine enter Tryz.func198 Tryz.call198 rfl Tryz.ntmps198 rfl (fun w0=>?_);refine go 9 ?_;refine a4v (c5I _ v ls hv (by omega) hl) rfl rfl (fun v5 s5 q5=>?_);obtain⟨xs5,rfl,hF5⟩:=q5;refine go 7 ?_;refine a1n (c7d _ _ ls.flatten xs5 hF5 h1 h2) rfl rfl (fun v7 s7 q7=>?_);obtain⟨rfl,m,ys,hpm,hFm,rfl⟩:=q7;rw[←hpm.1];refine go 6 ?_;refine a1n (b6X _ _ m ys hFm (by rw[hpm.1];exact h1) (by rw[hpm.1];exact h2)) rfl rfl (fun v9 s9 q9=>?_);obtain⟨m2,zs,hm2,hl2,hFz,rfl⟩:=q9;refine go 4 ?_;refine a0s rfl rfl ?_;exact q_x ⟨m2,zs,fun x=>(hm2 x).trans (hpm.2 x),by have:=hpm.1;omega,hFz,rfl⟩
theorem c3y (I:IMap) (r:Rep) (S:Option Addr) (d:Nat) (hr:RdS I (.slice S r.options.length d) r.options) (hs:∀e∈r.options,SmE e) :
    FnI Tryz.prog 123 #[.agg (r.cells (.slice S r.options.length d)).toArray] I (fun u J=>∃ns,RdS J u ns∧a5v r ns):=by
 have hSA:RdA I S r.options:=hr.toA
 have hl5:=hr.lenLe
 refine enter Tryz.func123 Tryz.call123 rfl Tryz.ntmps123 rfl (fun w0=>?_);refine go 3 ?_;refine a0B _ rfl rfl rfl (fun g1=>?_);refine go 8 ?_;refine a0d (b2g _ r S d hr hs) rfl rfl ?_;refine go 3 ?_;refine cb rfl (fun h8 p8=>?_) (fun h8 p8=>?_)
 ·refine go 7 ?_;refine a0s rfl rfl ?_;exact q_i ⟨[],RdS.nil',b0H (by simpa using h8)⟩
 ·have hvr:a0w r=true:=by simpa using h8
  have hvl:=a2S hvr
  refine go 4 ?_;refine a1f 33 1 ?_;refine go 13 ?_;refine a0f ?_;refine a0b ?_
  refine a3B ((0:Nat)) (_) ([]) (I) (fun i v3 xs J=>J)
   (fun i v3 xs J=>[(3,v3),(10,.slice S r.options.length d),(11,.int .i64 ((r.options.length:Nat):Int)),(12,.int .i64 ((i:Nat):Int))])
   (fun i v3 xs J=>[.row v3 33 1 i xs])
   (fun i v3 xs J=>i≤r.options.length∧ILe I J∧Flat J xs ((r.options.take i).map a1O))
   (fun i v3 xs J=>r.options.length-i) ⟨Nat.zero_le _,ILe.refl _,.nil⟩ rfl sb rfl ?_
  intro i v3 xs J ⟨hi,hJ,hF⟩
  have hSA:=hSA.le hJ
  refine go 6 ?_;refine cb rfl (fun h13 p13=>?_) (fun h13 p13=>?_)
  ·have hlt:i<r.options.length:=by omega
   refine go 6 ?_;obtain⟨b14,o14,w14,e14,c14,r14⟩:=RdA.at_ hSA (i:=i) (by omega);obtain rfl:=r14;refine o_v rfl (a0h he rfl rfl e14 (i) (by omega) (by omega)) ?_;refine o_v rfl (a0G he rfl c14 rfl) ?_;refine go 1 ?_;refine a0j he rfl (fun g5=>?_);refine go 1 ?_;refine a0p _ he rfl rfl rfl rfl rfl rfl ?_;refine go 6 ?_;refine a0O (c5P _ r.options[i] (hs _ (List.getElem_mem hlt))) rfl rfl (fun v18 I18 j18 q18=>?_)
   have q18s:=q18
   obtain⟨A18,c18,rfl,_,_,_⟩:=q18;refine go 1 ?_;refine a0c he he rfl rfl rfl rfl rfl rfl rfl (fun v19=>?_);refine go 1 ?_;refine a0o ?_;refine a0v he he rfl rfl rfl rfl rfl (by omega) (by omega) rfl (fun v20=>?_);refine go 9 ?_;refine a0f ?_;refine a0b ?_;refine a0f ?_;refine a0b ?_;exact a1N (i+1) (_) (_) (_) ⟨by omega,hJ.trans j18,by rw[←a0i hlt,List.map_append];exact (hF.le j18).append (.one ⟨_,rfl,q18s⟩)⟩ (by omega) rfl sb rfl
  ·have e:i=r.options.length:=by omega
   subst e;rw[List.take_length]at hF
   have hnf:=a7J r.options (a3a hvr)
   refine go 7 ?_;refine a0l (l:=(r.options.map a1O)) rfl (by rw[List.length_map]) (hF) (fun Ip jp Rp=>?_);refine go 2 ?_;refine a4v (c6f _ _ (r.options.map a1O) Rp (by rw[List.length_map];omega) (by omega) (by omega)) rfl rfl (fun v23 s23 q23=>?_);obtain⟨m,ys,hm,hml,hFm,rfl⟩:=q23;refine a0l (l:=m) rfl rfl (hFm) (fun Iq jq Rq=>?_);refine go 4 ?_;refine a0s rfl rfl ?_;exact q_i ⟨m,Rq,b2W hvr hm hml⟩
end Go.Proofs.YtdapmfkbpnjkmaaGreat
set_option linter.all false
namespace Go.Sx
open Go
theorem c5V {c:List Kind} {l:List Rep} {ch:List Int} {n:Int} (h:c1J c l=false):a1E c l ch n=false:=by
 cases hg:a1E c l ch n with
 |false=>rfl
 |true=>
  obtain⟨_,h2⟩:=a2g hg
  have h1:a1g c=true:=by
   simp only[a1E,Bool.and_eq_true,Bool.not_eq_true',Bool.or_eq_false_iff,Bool.not_eq_false']at hg
   exact hg.1.1
  have h3:a3h (fun _ r=>a0w r) l l.length=true:=by
   rw[a3h,List.all_eq_true];intro i hi
   have hi:=List.mem_range.1 hi
   simp only[List.getElem?_eq_getElem hi]
   exact h2 _ (List.getElem_mem hi)
  simp[c1J,h1,h3]at h
theorem b8D {r:Rep} (h:a0w r=true):1≤chs r:=by
 have:=a2S h
 simp only[chs,h,Bool.true_eq_false,if_false]
 split<;>omega
theorem b1g {f:Rep→Int→Bool} {l:List Rep} {ch:List Int} (h:∀i (h1:i<l.length) (h2:i<ch.length),f l[i] ch[i]=true) (hl:ch.length=l.length):a6F f l ch l.length=true:=by
 rw[a6F,List.all_eq_true];intro i hi
 have hi:=List.mem_range.1 hi
 rw[a2K hi (by omega)];exact h i hi (by omega)
theorem a6X {c:List Kind} {l:List Rep} {ch:List Int} {n:Int} (hc:a1g c=true) (hl:ch.length=l.length) (h:∀i (h1:i<l.length) (h2:i<ch.length),chs l[i]≠0∧n≤ch[i]∧ch[i]<chs l[i]):a1E c l ch n=true:=by
 simp only[a1E,hc,Bool.and_eq_true]
 refine⟨by simp[hl],b1g (fun i h1 h2=>?_) hl⟩;obtain⟨a,b,d⟩:=h i h1 h2
 simp only[a8c,Bool.not_eq_true',Bool.or_eq_false_iff,decide_eq_false_iff_not]
 omega
theorem a5Z {c:List Kind} {l:List Rep} {ch:List Int} {n:Int} (h:a1E c l ch n=true) {i:Nat} (h1:i<l.length) (h2:i<ch.length):chs l[i]≠0∧n≤ch[i]∧ch[i]<chs l[i]:=by
 simp only[a1E,Bool.and_eq_true]at h
 have:=b1f h.2 h1 h1 h2
 simp only[a8c,Bool.not_eq_true',Bool.or_eq_false_iff,decide_eq_false_iff_not]at this
 omega
theorem a6W {c:List Kind} {l:List Rep} {ch:List Int} {n:Int} (h:a1E c l ch n=true):a1g c=true:=by
 simp only[a1E,Bool.and_eq_true,Bool.not_eq_true',Bool.or_eq_false_iff,Bool.not_eq_false']at h
 exact h.1.1
theorem c6x {ch:List Int} {a i:Nat} (h:i<(b4y ch a).length):(b4y ch a)[i]=if a.testBit i=true then -1 else ch[i]'(by simpa[b4y]using h):=by simp[b4y]
theorem given_open {c:List Kind} {l:List Rep} {ch:List Int} (h:a1E c l ch 0=true) (a:Nat):a1E c l (b4y ch a) (-1)=true:=by
 have hl:=(a2g h).1
 refine a6X (a6W h) (by rw[b3b,hl]) fun i h1 h2=>?_
 have:=a5Z h h1 (by rw[b3b]at h2;exact h2)
 rw[c6x]
 split<;>omega
theorem b0u {c:List Kind} {l:List Rep} {ch:List Int} (h:a1E c l ch 0=true):a1E c l ch (-1)=true:=by
 refine a6X (a6W h) (a2g h).1 fun i h1 h2=>?_
 have:=a5Z h h1 h2
 omega
theorem a8G:∀(l:List Int) (a:Int),l.foldl (fun a d=>if d<a then d else a) a≤a∧∀d∈l,l.foldl (fun a d=>if d<a then d else a) a≤d
 | [],a=>⟨Int.le_refl _,fun d h=>by cases h⟩
 |x::r,a=>by
  obtain⟨h1,h2⟩:=a8G r (if x<a then x else a);rw[List.foldl_cons];refine⟨Int.le_trans h1 (by split<;>omega),fun d hd=>?_⟩
  rcases List.mem_cons.1 hd with rfl|hd
  ·exact Int.le_trans h1 (by split<;>omega)
  ·exact h2 d hd
theorem b5K:∀(l:List Int) (a m:Int),m≤a→(∀d∈l,m≤d)→m≤l.foldl (fun a d=>if d<a then d else a) a
 | [],a,m,h,_=>h
 |x::r,a,m,h,hl=>by
  rw[List.foldl_cons];exact b5K r _ m (by have:=hl x (by simp);split<;>omega) fun d hd=>hl d (by simp[hd])
theorem a8I {l:List Rep} {ch:List Int} (hl:ch.length=l.length) {d:Int}:d∈a1A l ch l.length↔∃i,∃(h1:i<l.length),∃(h2:i<ch.length),ch[i]<0∧∃e∈l[i].options,e.day=d:=by
 rw[a1A,List.mem_flatMap]
 constructor
 ·rintro⟨i,hi,hd⟩
  have hi:=List.mem_range.1 hi
  rw[a2K hi (by omega)]at hd
  simp only[Option.getD_some]at hd
  split at hd
  ·rename_i hc
   obtain⟨e,he,rfl⟩:=List.mem_map.1 hd;exact⟨i,hi,by omega,hc,e,he,rfl⟩
  ·cases hd
 ·rintro⟨i,h1,h2,hc,e,he,rfl⟩;refine⟨i,List.mem_range.2 h1,?_⟩;rw[a2K h1 h2]
  simp only[Option.getD_some,if_pos hc]
  exact List.mem_map.2 ⟨e,he,rfl⟩
theorem c3d {L1 L2:Int} {l:List Rep} {ch1 ch2:List Int} {i:Nat} (h1:i<l.length) (h2:i<ch1.length) (h3:i<ch2.length) (h:a3L L1 l[i] ch1[i]=(a3L L2 l[i] ch2[i]).filter fun e=>decide (e.day<L1)) :
  pkd L1 l ch1 i=(pkd L2 l ch2 i).filter fun p=>decide (p.e.day<L1):=by
 unfold pkd;rw[a2K h1 h2,a2K h1 h3,h]
 cases hq:a3L L2 l[i] ch2[i]with
 |none=>rfl
 |some e=>
  simp only[Option.join_some,Option.filter_some]
  by_cases hd:e.day<L1
  ·simp only[hd,decide_true,if_true]
   split
   ·simp[Option.filter,hd]
   ·rfl
  ·simp only[hd,decide_false,Bool.false_eq_true,if_false]
   split
   ·simp[Option.filter,hd]
   ·rfl
theorem c0j {L1 L2:Int} {l:List Rep} {ch1 ch2:List Int} (hl1:ch1.length=l.length) (hl2:ch2.length=l.length) (h:∀i (h1:i<l.length) (h2:i<ch1.length) (h3:i<ch2.length),a3L L1 l[i] ch1[i]=(a3L L2 l[i] ch2[i]).filter fun e=>decide (e.day<L1)) :
  ∀n,n≤l.length→a3f L1 l ch1 n=(a3f L2 l ch2 n).filter fun p=>decide (p.e.day<L1):=by
 intro n
 induction n with
 |zero=>intro _;rfl
 |succ n ih=>
  intro hn;rw[a5l,a5l,List.filter_append,←ih (by omega),c3d (by omega) (by omega) (by omega) (h n (by omega) (by omega) (by omega))]
  congr 1
  cases pkd L2 l ch2 n with
  |none=>rfl
  |some p=>by_cases hp:p.e.day<L1<;>simp[Option.filter,hp]
theorem b3D {α:Type} [Day α] (L:Int):∀{l:List α},b2D l→l=l.filter (fun x=>decide (Day.day x<L))++l.filter (fun x=>!decide (Day.day x<L))
 | [],_=>rfl
 |x::r,h=>by
  have h':=List.pairwise_cons.1 h
  by_cases hx:Day.day x<L
  ·simp only[List.filter_cons,hx,decide_true,if_true,Bool.not_true,Bool.false_eq_true,if_false,List.cons_append]
   rw[←b3D L h'.2]
  ·have h0:r.filter (fun x=>decide (Day.day x<L))=[]:=by
    rw[List.filter_eq_nil_iff];intro y hy
    have:=h'.1 y hy
    simp;omega
   have h1:r.filter (fun x=>!decide (Day.day x<L))=r:=by
    rw[List.filter_eq_self];intro y hy
    have:=h'.1 y hy
    simp;omega
   simp[List.filter_cons,hx,h0,h1]
theorem b4l {c:List Kind} {l:List Rep} {ch1 ch2:List Int} {L1 L2:Int} (h:a3f L1 l ch1 l.length=(a3f L2 l ch2 l.length).filter fun p=>decide (p.e.day<L1)) (hf:(a4z c l ch1 L1).2≠0):(a4z c l ch2 L2).2≠0:=by
 unfold a4z at hf ⊢
 have e1:a0U (a3f L1 l ch1 l.length)=(a0U (a3f L2 l ch2 l.length)).filter (fun p=>decide (Day.day p<L1)):=by
  rw[h,b0T];rfl
 have e2:=b3D L1 (a3J (a3f L2 l ch2 l.length))
 rw[e2,←e1,b0t]
 have e3:a1P c [] ((a0U (a3f L1 l ch1 l.length)).map Pkd.e)=none:=by
  have:=a9n c (a0U (a3f L1 l ch1 l.length)) []
  rw[decide_eq_false hf]at this
  cases hr:a1P c [] ((a0U (a3f L1 l ch1 l.length)).map Pkd.e) with
  |none=>rfl
  |some s=>rw[hr]at this;cases this
 rw[e3];exact hf
theorem b5Z {L:Int} {r:Rep} {k:Int} {e:Evt} (h:a3L L r k=some e):e∈r.options:=by
 unfold a3L at h
 split at h
 ·split at h
  ·rename_i x hx
   split at h
   ·cases h;exact List.mem_of_getElem? hx
   ·cases h
  ·cases h
 ·cases h
theorem c2Y {L1 L2:Int} (hL:L1≤L2) (r:Rep) (k:Int):a3L L1 r k=(a3L L2 r k).filter fun e=>decide (e.day<L1):=by
 unfold a3L
 split
 ·cases r.options[k.toNat]? with
  |none=>rfl
  |some e=>
   simp only
   by_cases h:e.day<L1
   ·rw[if_pos h,if_pos (by omega)];simp[Option.filter,h]
   ·rw[if_neg h]
    split
    ·simp[Option.filter,h]
    ·rfl
 ·rfl
theorem c2k {c:List Kind} {l:List Rep} {ch:List Int} (hg:a1E c l ch 0=true):a6T c l ch = !isF c l ch:=by
 have hl:=(a2g hg).1
 have h0:a1A l ch l.length=[]:=by
  rw[List.eq_nil_iff_forall_not_mem];intro d hd;obtain⟨i,h1,h2,hc,_⟩:=(a8I hl).1 hd
  have:=a5Z hg h1 h2
  omega
 rw[a6T,if_neg (by rw[b0u hg];decide),isF,a8f,if_neg (by rw[hg];decide),h0]
 rfl
end Go.Sx
set_option linter.all false
namespace Go.Sx
open Go
def b0k (day:Int) (l:List Rep) (ch:List Int):List Evt:=(l.zip ch).filterMap fun p=>a3L day p.1 p.2
theorem b7F (day:Int) (l:List Rep) (ch:List Int) (hl:ch.length=l.length) (hv:∀r∈l,a0w r=true):∀n,n≤l.length→(a3f day l ch n).map Pkd.e=((l.zip ch).take n).filterMap fun p=>a3L day p.1 p.2:=by
 intro n
 induction n with
 |zero=>intro _;rfl
 |succ n ih=>
  intro hn
  have h1:n<l.length:=by omega
  have h2:n<ch.length:=by omega
  have h3:n<(l.zip ch).length:=by simp;omega
  rw[a5l,List.map_append,ih (by omega),←a0i h3,List.filterMap_append]
  congr 1
  have e:(l.zip ch)[n]=(l[n],ch[n]):=by simp
  rw[e,pkd,a2K h1 h2]
  cases hq:a3L day l[n] ch[n]with
  |none=>simp[hq]
  |some x=>
   have hd:=a8a (a3a (hv _ (List.getElem_mem h1)) x (b5Z hq))
   simp[hq,hd]
theorem b6c {day:Int} {l:List Rep} {ch:List Int} (hl:ch.length=l.length) (hv:∀r∈l,a0w r=true):(a3f day l ch l.length).map Pkd.e=b0k day l ch:=by
 rw[b7F day l ch hl hv l.length (Nat.le_refl _),b0k,List.take_of_length_le (by simp;omega)]
theorem b9k {c:List Kind} {l:List Rep} {ch:List Int} {day:Int} (hl:ch.length=l.length) (hv:∀r∈l,a0w r=true):decide ((a4z c l ch day).2=0)=(a1P c [] (a0U (b0k day l ch))).isSome:=by
 rw[a4z,a9n,b3A Pkd.e (fun _=>rfl),b6c hl hv]
theorem c8A {c:List Kind} {l:List Rep} {ch:List Int} (hg:a1E c l ch 0=true):isF c l ch=(a1P c [] (a0U (b0k 40001 l ch))).isSome:=by
 obtain⟨hl,hv⟩:=a2g hg;rw[isF,a8f,if_neg (by rw[hg];decide),b9k hl hv]
theorem c8B {c:List Kind} {l:List Rep} {ch:List Int} (hg:a1E c l ch 0=false):isF c l ch=false:=by
 rw[isF,a8f,if_pos hg];rfl
end Go.Sx
set_option linter.all false
namespace Go.Sx
open Go
def a2b:List Rep→List (List Int)
 | []=>[[]]
 |r::l=>(List.range (chs r).toNat).flatMap fun (k:Nat)=>(a2b l).map fun t=>(k:Int)::t
def a3d (c:List Kind) (l:List Rep):List (List Int):=(a2b l).filter (isF c l)
theorem a5w:∀{l:List Rep} {t:List Int},t∈a2b l↔t.length=l.length∧∀i (h1:i<l.length) (h2:i<t.length),0≤t[i]∧t[i]<chs l[i]
 | [],t=>by
  simp only[a2b,List.mem_singleton,List.length_nil]
  constructor
  ·rintro rfl;exact⟨rfl,fun i h=>absurd h (Nat.not_lt_zero i)⟩
  ·rintro⟨h,_⟩;exact List.eq_nil_of_length_eq_zero h
 |r::l,t=>by
  simp only[a2b,List.mem_flatMap,List.mem_range,List.mem_map]
  constructor
  ·rintro⟨k,hk,s,hs,rfl⟩;obtain⟨h1,h2⟩:=a5w.1 hs;refine⟨by simp[h1],fun i h3 h4=>?_⟩
   cases i with
   |zero=>simp only[List.getElem_cons_zero];omega
   |succ i=>simpa using h2 i (by simpa using h3) (by simpa using h4)
  ·rintro⟨h1,h2⟩
   cases t with
   |nil=>simp at h1
   |cons x s=>
    have h0:=h2 0 (by simp) (by simp)
    simp only[List.getElem_cons_zero]at h0
    refine⟨x.toNat,by omega,s,a5w.2 ⟨by simpa using h1,fun i h3 h4=>?_⟩,by rw[Int.toNat_of_nonneg h0.1]⟩;exact h2 (i+1) (by simpa using h3) (by simpa using h4)
theorem b7a {c:List Kind} {l:List Rep} {ch1 ch2:List Int} (g1:a1E c l ch1 (-1)=true) (g2:a1E c l ch2 (-1)=true) (hs:∀i (h1:i<ch1.length) (h2:i<ch2.length),ch1[i]=ch2[i]∨ch1[i]<0) (h:a6T c l ch1=true):a6T c l ch2=true:=by
 have la:=(a2g g1).1
 have lb:=(a2g g2).1
 unfold a6T at h ⊢
 rw[if_neg (by rw[g1];decide)]at h
 rw[if_neg (by rw[g2];decide)]
 simp only[Bool.not_eq_true',decide_eq_false_iff_not]at h ⊢
 have hL:a5g (a1A l ch1 l.length)≤a5g (a1A l ch2 l.length):=by
  refine b5K _ _ _ (a8G _ _).1 fun d hd=>?_
  refine (a8G _ _).2 d ?_;rw[a8I lb]at hd
  obtain⟨i,h1,h2,hc,e,he,rfl⟩:=hd;refine (a8I la).2 ⟨i,h1,by omega,?_,e,he,rfl⟩
  rcases hs i (by omega) h2 with h3|h3
  ·rw[h3];exact hc
  ·exact h3
 refine b4l (c0j la lb (fun i h1 h2 h3=>?_) _ (Nat.le_refl _)) h
 rcases hs i h2 h3 with h4|h4
 ·rw[h4];exact c2Y hL _ _
 ·have e1:a3L (a5g (a1A l ch1 l.length)) l[i] ch1[i]=none:=by unfold a3L;rw[if_neg (by omega)]
  rw[e1]
  cases hq:a3L (a5g (a1A l ch2 l.length)) l[i] ch2[i]with
  |none=>rfl
  |some e=>
   have h5:a5g (a1A l ch1 l.length)≤e.day:=(a8G _ _).2 _ ((a8I la).2 ⟨i,h1,h2,h4,e,b5Z hq,rfl⟩)
   have h6:¬e.day<a5g (a1A l ch1 l.length):=by omega
   simp[Option.filter,h6]
def a2X (rs:List Rep):List Int:=rs.map fun r=>if 1<chs r then -1 else 0
def b2h (c:List Kind) (l:List Rep) (pre:List Int) (rs:List Rep):List (List Int):=((a2b rs).map (pre ++ ·)).filter (isF c l)
theorem b4J (c:List Kind) (l:List Rep) (pre:List Int):b2h c l pre []=if isF c l pre=true then [pre] else []:=by
 simp only[b2h,a2b,List.map_cons,List.map_nil,List.append_nil,List.filter_cons,List.filter_nil]
theorem b2i (c:List Kind) (l:List Rep) (pre:List Int) (r:Rep) (rs:List Rep):b2h c l pre (r::rs)=(List.range (chs r).toNat).flatMap fun (k:Nat)=>b2h c l (pre++[(k:Int)]) rs:=by
 simp only[b2h,a2b,List.map_flatMap,List.filter_flatMap,List.map_map]
 congr 1
 funext k
 congr 2
 funext t
 simp
theorem c6T {c:List Kind} {l:List Rep} {pre:List Int} {r:Rep} {rs:List Rep} (h:chs r=1):b2h c l pre (r::rs)=b2h c l (pre++[0]) rs:=by
 rw[b2i,h];simp
theorem c2B (c:List Kind) (l:List Rep):a3d c l=b2h c l [] l:=by
 simp[a3d,b2h]
structure Mid (c:List Kind) (l:List Rep) (pre:List Int) (rs:List Rep):Prop where
 cat:a1g c=true
 pos:∀r∈l,chs r≠0
 is:∃a,l=a++rs∧pre.length=a.length∧∀i (h1:i<a.length) (h2:i<pre.length),0≤pre[i]∧pre[i]<chs a[i]
theorem b5n (r:Rep):0≤chs r:=by
 unfold chs;split
 ·omega
 ·split<;>omega
theorem b9L {c:List Kind} {l:List Rep} (hc:a1g c=true) (hp:∀r∈l,chs r≠0):Mid c l [] l:=⟨hc,hp,[],rfl,rfl,fun i h=>absurd h (Nat.not_lt_zero i)⟩
theorem Mid.next {c:List Kind} {l:List Rep} {pre:List Int} {r:Rep} {rs:List Rep} (h:Mid c l pre (r::rs)) {k:Int} (h0:0≤k) (hk:k<chs r):Mid c l (pre++[k]) rs:=by
 obtain⟨a,e1,e2,e3⟩:=h.is;refine⟨h.cat,h.pos,a++[r],by rw[e1];simp,by simp[e2],fun i h1 h2=>?_⟩
 by_cases hi:i<a.length
 ·rw[List.getElem_append_left hi,List.getElem_append_left (by omega)];exact e3 i hi (by omega)
 ·have:i=a.length:=by simp at h1;omega
  subst this
  simp[←e2,h0,hk]
theorem Mid.len {c:List Kind} {l:List Rep} {pre:List Int} {rs:List Rep} (h:Mid c l pre rs):pre.length+rs.length=l.length:=by
 obtain⟨a,e1,e2,_⟩:=h.is;rw[e1,List.length_append,e2]
theorem Mid.given {c:List Kind} {l:List Rep} {pre:List Int} {rs:List Rep} (h:Mid c l pre rs) {t:List Int} (ht:t.length=rs.length) {n:Int} (hn:n≤0) (hb:∀i (h1:i<rs.length) (h2:i<t.length),n≤t[i]∧t[i]<chs rs[i]):a1E c l (pre++t) n=true:=by
 obtain⟨a,e1,e2,e3⟩:=h.is;refine a6X h.cat (by rw[List.length_append,ht];exact h.len) fun i h1 h2=>?_
 refine⟨h.pos _ (List.getElem_mem h1),?_⟩;subst e1
 by_cases hi:i<a.length
 ·rw[List.getElem_append_left hi,List.getElem_append_left (by omega)]
  have:=e3 i hi (by omega)
  omega
 ·rw[List.length_append]at h1
  rw[List.getElem_append_right (by omega),List.getElem_append_right (by omega)]
  have:=hb (i-a.length) (by omega) (by omega)
  simpa[e2]using this
theorem Mid.given_open {c:List Kind} {l:List Rep} {pre:List Int} {rs:List Rep} (h:Mid c l pre rs):a1E c l (pre++a2X rs) (-1)=true:=by
 refine h.given (by simp[a2X]) (by omega) fun i h1 h2=>?_
 have hp:=h.pos rs[i] (by obtain⟨a,e1,_⟩:=h.is;rw[e1];exact List.mem_append_right _ (List.getElem_mem h1))
 have:=b5n rs[i]
 simp only[a2X,List.getElem_map]
 split<;>omega
theorem c0C {c:List Kind} {l:List Rep} {pre:List Int} {rs:List Rep} (h:Mid c l pre rs) (hf:a6T c l (pre++a2X rs)=true):b2h c l pre rs=[]:=by
 rw[b2h,List.filter_eq_nil_iff];intro x hx;obtain⟨t,ht,rfl⟩:=List.mem_map.1 hx;obtain⟨h1,h2⟩:=a5w.1 ht
 have g0:a1E c l (pre++t) 0=true:=h.given h1 (Int.le_refl _) h2
 have g1:=b0u g0
 have hl:=(a2g h.given_open).1
 have:=b7a h.given_open g1 (fun i h3 h4=>by
  by_cases hi:i<pre.length
  ·left;rw[List.getElem_append_left hi,List.getElem_append_left hi]
  ·rw[List.getElem_append_right (by omega),List.getElem_append_right (by omega)]
   have h5:i-pre.length<rs.length:=by simp[a2X]at h3;omega
   have:=h2 (i-pre.length) h5 (by omega)
   simp only[a2X,List.getElem_map]
   split
   ·right;omega
   ·left;omega) hf
 rw[c2k g0]at this
 simpa using this
end Go.Sx
