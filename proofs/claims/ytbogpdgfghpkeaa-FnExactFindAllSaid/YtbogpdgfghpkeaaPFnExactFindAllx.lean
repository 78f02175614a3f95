-- PRINTED BY print.sh 35421559b90ae4d0a3588c463048766b98c2df88dd9212a6774a882060cdf62d: not written by this session
import Derived.Test.YtbogpdgfghpkeaaPFnExactFindAllx0
import Derived.Test.YtbogpdgfghpkeaaPFnExactFindAllx1
import Derived.Test.YtbogpdgfghpkeaaPFnExactFindAllx2
import Derived.Test.YtbogpdgfghpkeaaPFnExactFindAllx3
import Derived.Test.YtbogpdgfghpkeaaPFnExactFindAllx4
import Derived.Test.YtbogpdgfghpkeaaPFnExactFindAllx5
import Derived.Test.YtbogpdgfghpkeaaPFnExactFindAllx6
import Derived.Test.YtbogpdgfghpkeaaPFnExactFindAllx7
namespace Go.Proofs.Ytbogpdgfghpkeaa.PFnExactFindAll
open Go.RowKit Go.Proofs.YtbogpdgfghpkeaaW.PrintWords Go.Proofs.YtbogpdgfghpkeaaW.PrintLast Go.Proofs.YtbogpdgfghpkeaaW.PrintMore
attribute [local go_sem] max2_int min2_int max_two min_two max_three min_three max_four min_four   -- for this text's walks alone
set_option linter.unusedVariables false
set_option linter.unusedSimpArgs false

end Go.Proofs.Ytbogpdgfghpkeaa.PFnExactFindAll
